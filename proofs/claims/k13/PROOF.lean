import PyProof.Rows.All
import Wide.All
import OpenK.AllK
import Wide.FinOn
import HandS.ForSpec
import HandS.ForMost
import HandS.HeadHook1
import HandS.Lambda
import HandS.TupAny
import HandS.Conv
import HandS.TupMul
import HandS.Wide
import HandS.IsInst
import HandS.Deep
import HandS.Iter
import HandS.Defaults
import HandS.Style
import HandS.Comp
import HandS.HeadHook2
import HandS.HeadHook3
import HandS.HeadHook4
import HandS.EndBits
import HandS.RaiseMore
import HandS.Text
import HandS.Zip
import KE.GoesMore
import KE.GoesZip
import KE.GoesEnumKw
import HandS.SortKw
import HandS.TryOnly
import HandS.ExcOwn
import HandS.ExcIs
import KE.KExcIs
import HandS.Dict
import HandS.Small
import HandS.More
import KE.KDictPairs
import KE.KUnpackStar
import HandS.SetBool
import HandS.Strs
import HandS.SetKeys
import HandS.SortInts
import PyProof.FactsAll.bool
import PyProof.PureInt
import HandS.DictComp
import KE.KExcInit
import HandS.ExcInit
import HandS.ExcField
import HandS.Head2
import PySem.Challenge.RW_leviesbook_k13_whole_taxes_turned_and_pa
set_option Elab.async false
set_option linter.all false
set_option maxRecDepth 100000
set_option maxHeartbeats 4000000
/-! DmA: data D, how it lies in the abstract heap (Rp), owned data (Ow), a frame's slots (EnvR), steps of the heap. -/
namespace DM
open PySem PySem.Spec PyProof.Rows L2
/-- the tables of code objects, for the lambdas that the law's defs make, with their lambdas' names; the code objects that are known; what stays for a caller (F0, as H0 has it) -/
class LamT where
  tk : List (Addr × Str)
  cd : List (Addr × Str)
  F0 : Addr → Prop
  H0 : Hp
/-- they stand -/
instance (priority := low) : LamT := ⟨[], [], fun _ => False, fun _ => none⟩
def LTs [LamT] (H : Hp) : Prop := LamX.Tabs LamT.tk H ∧ ∀ p ∈ LamT.cd, H p.1 = some (LamX.CodeO p.1 p.2)
def nTb (o : HO) : Prop := ∀ ps, o ≠ .tbl ps
theorem nt_tup {xs} : nTb (.tup xs) := fun _ z => nomatch z
theorem nt_lst {xs} : nTb (.lst xs) := fun _ z => nomatch z
theorem nt_dK {xs} : nTb (.dK xs) := fun _ z => nomatch z
theorem nt_dT {xs} : nTb (.dT xs) := fun _ z => nomatch z
theorem nt_xd {xs} : nTb (.xd xs) := fun _ z => nomatch z
theorem nt_ext {φ} : nTb (.ext φ) := fun _ z => nomatch z
theorem nt_frz {o u} : nTb (.frz o u) := fun _ z => nomatch z
def Kp (o : HO) (x : Option HO) : Prop := x = some o ∨ ∃ ps ps', o = .tbl ps ∧ x = some (.tbl ps')
theorem Kp.eq {o : HO} {x : Option HO} (h : Kp o x) (t : nTb o) : x = some o := by
  rcases h with h | ⟨ps, _, e, _⟩
  · exact h
  · exact absurd e (t ps)
theorem Kp.ne {o : HO} {x : Option HO} (h : Kp o x) : x ≠ none := by
  rcases h with h | ⟨_, _, _, h⟩ <;> rw [h] <;> exact fun z => nomatch z

theorem Kp.trans {o : HO} {x y : Option HO} (h : Kp o x) (k : ∀ u, x = some u → Kp u y) : Kp o y := by
  rcases h with h | ⟨ps, ps', e, h⟩
  · exact k o h
  · rcases k _ h with k | ⟨qs, qs', _, k⟩
    · exact .inr ⟨ps, ps', e, k⟩
    · exact .inr ⟨ps, qs', e, k⟩
def IV [LamT] (F : Addr → Prop) (H : Hp) : Prop := ∀ b, LamT.F0 b → F b ∧ ∀ o, LamT.H0 b = some o → Kp o (H b)
def TbI [LamT] (F : Addr → Prop) (H : Hp) : Prop := LTs H ∧ IV F H

/-- data: a value without parts, a list, a tuple, a dict (its pairs in order), the script, an exception (its class, its fields) -/
inductive D where
  | v (x : V)
  | lst (xs : List D)
  | tup (xs : List D)
  | dct (kvs : List (D × D))
  | dcT (kvs : List (D × D))
  | scr (ns : List Int)
  | ex (c : Str) (fs : List (Str × D))

abbrev D.int (i : Int) : D := .v (.int i)
abbrev D.bl (b : Bool) : D := .v (.bl b)
abbrev D.str (s : Str) : D := .v (.str s)
abbrev D.non : D := .v .non

abbrev FS := Addr → Prop

def isKV : V → Bool
  | .int _ => true
  | .str _ => true
  | _ => false
def kl (vs : List V) : Bool := !vs.isEmpty && vs.all isKV
def TO (o : Obj) (vs : List V) : HO := if kl vs = true then .tup vs else .frz o (.tup vs)
theorem TO.key {o : Obj} {vs : List V} (h : kl vs = true) : TO o vs = .tup vs := if_pos h
theorem TO.frz {o : Obj} {vs : List V} (h : kl vs = false) : TO o vs = .frz o (.tup vs) := if_neg (by rw [h]; exact fun z => nomatch z)
theorem TO.nt {o : Obj} {vs : List V} : nTb (TO o vs) := by
  unfold TO
  split
  · exact nt_tup
  · exact nt_frz
theorem TO.nn {o : Obj} {vs : List V} : some (TO o vs) ≠ none := fun z => nomatch z
theorem TO.rd {H : Hp} {a : Addr} {o : Obj} {vs : List V} (h : H a = some (TO o vs)) : Rd H a (.tup vs) := by
  unfold TO at h
  split at h
  · exact .inl h
  · exact .inr ⟨o, h⟩
theorem TO.code {o : Obj} {vs : List V} {a : Addr} {q : Str} : TO o vs ≠ LamX.CodeO a q := by
  unfold TO LamX.CodeO
  split <;> exact fun z => nomatch z
def TupF (K : PySem.W.Frag) (F : FS) (H : Hp) (a : Addr) (xs : List V) : Prop := F a ∧ ∃ o : Obj, o.dict = none ∧ H a = some (TO o xs)
theorem TupF.rd {K F H a xs} (h : TupF K F H a xs) : Rd H a (.tup xs) := by
  obtain ⟨_, o, _, e⟩ := h
  exact TO.rd e
theorem TupF.sq {K F H a xs} (h : TupF K F H a xs) : SqT K H a xs := .inl h.rd
theorem TupF.key {K F H a xs} (h : TupF K F H a xs) (k : kl xs = true) : H a = some (.tup xs) := by
  obtain ⟨_, o, _, e⟩ := h
  rw [TO.key k] at e
  exact e
theorem TupF.ofKey {K : PySem.W.Frag} {F : FS} {H : Hp} {a : Addr} {xs : List V} (f : F a) (h : H a = some (.tup xs)) (k : kl xs = true) : TupF K F H a xs :=
  ⟨f, { cls := .type "tuple", data := .seq #[] 0 }, rfl, by rw [TO.key k]; exact h⟩
theorem kl_map {k : List Key} (h : k ≠ []) : kl (k.map kV) = true := by
  unfold kl
  rw [Bool.and_eq_true]
  refine ⟨by cases k with | nil => exact absurd rfl h | cons _ _ => rfl, ?_⟩
  rw [List.all_eq_true]
  intro v hv
  obtain ⟨q, _, rfl⟩ := List.mem_map.mp hv
  cases q <;> rfl

def ModL (K : PySem.W.Frag) (a : Addr) (xs : List V) : Prop :=
  ∃ (o : Obj) (its : Array Value) (n : Nat), K.lookup a = some o ∧ o.cls = .type "list" ∧ o.dict = none ∧ o.data = .seq its n ∧ its.size ≤ sizeLine ∧ Vals xs its.toList
def LstF (K : PySem.W.Frag) (F : FS) (H : Hp) (a : Addr) (xs : List V) : Prop := (F a ∧ Rd H a (.lst xs)) ∨ ModL K a xs
theorem LstF.sq {K F H a xs} (h : LstF K F H a xs) : SqL K H a xs := by
  rcases h with ⟨_, h⟩ | h
  · exact .inl h
  · exact .inr h

/-- a key as data -/
inductive KeyD : Key → D → Prop
  | int (i : Int) : KeyD (.inl i) (.v (.int i))
  | str (x : Str) : KeyD (.inr x) (.v (.str x))
inductive KeysD : List Key → List D → Prop
  | nil : KeysD [] []
  | cons {k d ks ds} : KeyD k d → KeysD ks ds → KeysD (k :: ks) (d :: ds)

def exφ (a : Addr) (cls : Value) (dd : Option Addr) : Heap → Prop := fun h => ∃ o, h.get? a = some o ∧ Zc cls dd o ∧ ∃ vs, o.data = .fields vs
def Lkd (F : FS) (H : Hp) (a : Addr) (u : HO) : Prop := (∃ b, ¬ F b) → ∃ o, H a = some (.frz o u)
mutual
/-- v is d by the heap H, all objects of it among those that stay (F) -/
inductive Rp (K : PySem.W.Frag) (F : FS) (H : Hp) : V → D → Prop
  | v (x : V) : Rp K F H x (.v x)
  | lst {a : Addr} {vs : List V} {ds : List D} : F a → H a = some (.lst vs) → Rps K F H vs ds → Rp K F H (.ref a) (.lst ds)
  | tup {a : Addr} {vs : List V} {ds : List D} : TupF K F H a vs → Rps K F H vs ds → Rp K F H (.ref a) (.tup ds)
  | dK {a : Addr} {kvs : List (Key × V)} {ds : List (D × D)} : F a → Rd H a (.dK kvs) → Lkd F H a (.dK kvs) → RpK K F H kvs ds → Rp K F H (.ref a) (.dct ds)
  | dT {a : Addr} {kvs : List (List Key × V)} {ds : List (D × D)} : F a → Rd H a (.dT kvs) → Lkd F H a (.dT kvs) → RpT K F H kvs ds → Rp K F H (.ref a) (.dcT ds)
  | scr {a : Addr} {ns : List Int} : LstF K F H a (ns.map V.int) → Rp K F H (.ref a) (.scr ns)
  | ex {a : Addr} {c : Str} {dd : Option Addr} {vs : List (Str × V)} {fs : List (Str × D)} : F a → Rd H a (.ext (exφ a (.ref (He.ga K c)) dd)) → (∀ d, dd = some d → F d ∧ Rd H d (.xd vs)) → (dd = none ↔ fs = []) → RpF K F H vs fs → Rp K F H (.ref a) (.ex c fs)
inductive Rps (K : PySem.W.Frag) (F : FS) (H : Hp) : List V → List D → Prop
  | nil : Rps K F H [] []
  | cons {v : V} {d : D} {vs : List V} {ds : List D} : Rp K F H v d → Rps K F H vs ds → Rps K F H (v :: vs) (d :: ds)
inductive RpF (K : PySem.W.Frag) (F : FS) (H : Hp) : List (Str × V) → List (Str × D) → Prop
  | nil : RpF K F H [] []
  | cons {n : Str} {v : V} {d : D} {vs : List (Str × V)} {ds : List (Str × D)} : Rp K F H v d → RpF K F H vs ds → RpF K F H ((n, v) :: vs) ((n, d) :: ds)
inductive RpK (K : PySem.W.Frag) (F : FS) (H : Hp) : List (Key × V) → List (D × D) → Prop
  | nil : RpK K F H [] []
  | cons {k : Key} {v : V} {dk d : D} {r : List (Key × V)} {ds : List (D × D)} : KeyD k dk → Rp K F H v d → RpK K F H r ds → RpK K F H ((k, v) :: r) ((dk, d) :: ds)
inductive RpT (K : PySem.W.Frag) (F : FS) (H : Hp) : List (List Key × V) → List (D × D) → Prop
  | nil : RpT K F H [] []
  | cons {k : List Key} {v : V} {dk : List D} {d : D} {r : List (List Key × V)} {ds : List (D × D)} : KeysD k dk ∧ k ≠ [] → Rp K F H v d → RpT K F H r ds → RpT K F H ((k, v) :: r) ((.tup dk, d) :: ds)
end

section
variable {K : PySem.W.Frag} {F F' : FS} {H H' : Hp}
/-- what Rp leans on stays -/
structure Fut (F : FS) (H : Hp) (F' : FS) (H' : Hp) : Prop where
  f : ∀ a, F a → F' a
  k : ∀ a o, F a → H a = some o → Kp o (H' a)
theorem Fut.l (m : Fut F H F' H') (a : Addr) (xs : List V) (f : F a) (h : H a = some (.lst xs)) : H' a = some (.lst xs) := (m.k a _ f h).eq nt_lst
theorem Fut.r (m : Fut F H F' H') (a : Addr) (u : HO) (f : F a) (t : nTb u) (h : Rd H a u) : Rd H' a u := by
  rcases h with h | ⟨o, h⟩
  · exact .inl ((m.k a _ f h).eq t)
  · exact .inr ⟨o, (m.k a _ f h).eq fun _ z => nomatch z⟩
theorem Fut.t (m : Fut F H F' H') (a : Addr) (xs : List V) (f : F a) (h : Rd H a (.tup xs)) : Rd H' a (.tup xs) := m.r a _ f nt_tup h
theorem IV.mono [LamT] (m : Fut F H F' H') (h : IV F H) : IV F' H' := fun b hb => ⟨m.f b (h b hb).1, fun o e => ((h b hb).2 o e).trans fun u hu => m.k b u (h b hb).1 hu⟩
theorem Lkd.mono {a u} (m : Fut F H F' H') (f : F a) (h : Lkd F H a u) : Lkd F' H' a u := fun ⟨b, hb⟩ => by
  obtain ⟨o, e⟩ := h ⟨b, fun z => hb (m.f b z)⟩
  exact ⟨o, (m.k a _ f e).eq nt_frz⟩
theorem TupF.mono {a xs} (m : Fut F H F' H') (h : TupF K F H a xs) : TupF K F' H' a xs := by
  obtain ⟨f, o, d, e⟩ := h
  exact ⟨m.f a f, o, d, (m.k a _ f e).eq TO.nt⟩
theorem LstF.mono {a xs} (m : Fut F H F' H') (h : LstF K F H a xs) : LstF K F' H' a xs := by
  rcases h with ⟨f, h⟩ | h
  · exact .inl ⟨m.f a f, m.r a _ f (fun _ z => nomatch z) h⟩
  · exact .inr h
mutual
theorem Rp.mono (m : Fut F H F' H') : ∀ {v d}, Rp K F H v d → Rp K F' H' v d
  | _, _, .v x => .v x
  | _, _, .lst f h r => .lst (m.f _ f) (m.l _ _ f h) (Rps.mono m r)
  | _, _, .tup h r => .tup (h.mono m) (Rps.mono m r)
  | _, _, .dK f h z r => .dK (m.f _ f) (m.r _ _ f nt_dK h) (z.mono m f) (RpK.mono m r)
  | _, _, .dT f h z r => .dT (m.f _ f) (m.r _ _ f nt_dT h) (z.mono m f) (RpT.mono m r)
  | _, _, .scr h => .scr (h.mono m)
  | _, _, .ex f h x n r => .ex (m.f _ f) (m.r _ _ f nt_ext h) (fun d e => ⟨m.f _ (x d e).1, m.r _ _ (x d e).1 nt_xd (x d e).2⟩) n (RpF.mono m r)
theorem RpF.mono (m : Fut F H F' H') : ∀ {vs ds}, RpF K F H vs ds → RpF K F' H' vs ds
  | _, _, .nil => .nil
  | _, _, .cons h r => .cons (Rp.mono m h) (RpF.mono m r)
theorem Rps.mono (m : Fut F H F' H') : ∀ {vs ds}, Rps K F H vs ds → Rps K F' H' vs ds
  | _, _, .nil => .nil
  | _, _, .cons h r => .cons (Rp.mono m h) (Rps.mono m r)
theorem RpK.mono (m : Fut F H F' H') : ∀ {vs ds}, RpK K F H vs ds → RpK K F' H' vs ds
  | _, _, .nil => .nil
  | _, _, .cons k h r => .cons k (Rp.mono m h) (RpK.mono m r)
theorem RpT.mono (m : Fut F H F' H') : ∀ {vs ds}, RpT K F H vs ds → RpT K F' H' vs ds
  | _, _, .nil => .nil
  | _, _, .cons k h r => .cons k (Rp.mono m h) (RpT.mono m r)
end
theorem Rps.length : ∀ {vs ds}, Rps K F H vs ds → vs.length = ds.length
  | _, _, .nil => rfl
  | _, _, .cons _ r => congrArg (· + 1) (Rps.length r)
theorem Rps.get : ∀ {vs ds} {i : Nat} {d : D}, Rps K F H vs ds → ds[i]? = some d → ∃ v, vs[i]? = some v ∧ Rp K F H v d
  | _, _, i, d, .nil, h => by simp at h
  | _, _, 0, d, .cons h r, e => by simp at e; subst e; exact ⟨_, rfl, h⟩
  | _, _, i + 1, d, .cons h r, e => by
    obtain ⟨v, a, b⟩ := Rps.get (i := i) (d := d) r (by simpa using e)
    exact ⟨v, by simpa using a, b⟩
theorem Rps.getV : ∀ {vs ds} {i : Nat} {v : V}, Rps K F H vs ds → vs[i]? = some v → ∃ d, ds[i]? = some d ∧ Rp K F H v d
  | _, _, i, d, .nil, h => by simp at h
  | _, _, 0, d, .cons h r, e => by simp at e; subst e; exact ⟨_, rfl, h⟩
  | _, _, i + 1, d, .cons h r, e => by
    obtain ⟨v, a, b⟩ := Rps.getV (i := i) (v := d) r (by simpa using e)
    exact ⟨v, by simpa using a, b⟩
theorem Rps.app : ∀ {vs ds us es}, Rps K F H vs ds → Rps K F H us es → Rps K F H (vs ++ us) (ds ++ es)
  | _, _, _, _, .nil, s => s
  | _, _, _, _, .cons h r, s => .cons h (Rps.app r s)
theorem Rps.drop : ∀ {vs ds} (n : Nat), Rps K F H vs ds → Rps K F H (vs.drop n) (ds.drop n)
  | _, _, 0, r => r
  | _, _, _ + 1, .nil => .nil
  | _, _, n + 1, .cons _ r => Rps.drop n r
theorem Rps.take : ∀ {vs ds} (n : Nat), Rps K F H vs ds → Rps K F H (vs.take n) (ds.take n)
  | _, _, 0, _ => .nil
  | _, _, _ + 1, .nil => .nil
  | _, _, n + 1, .cons h r => .cons h (Rps.take n r)
theorem Rps.set : ∀ {vs ds} (i : Nat) {v d}, Rps K F H vs ds → Rp K F H v d → Rps K F H (vs.set i v) (ds.set i d)
  | _, _, _, _, _, .nil, _ => .nil
  | _, _, 0, _, _, .cons _ r, h => .cons h r
  | _, _, i + 1, _, _, .cons a r, h => .cons a (Rps.set i r h)
theorem Rps.ints : ∀ (ns : List Int), Rps K F H (ns.map V.int) (ns.map D.int)
  | [] => .nil
  | n :: ns => .cons (.v _) (Rps.ints ns)
theorem Rps.one {v : V} {ds : List D} (h : Rps K F H [v] ds) : ∃ d, ds = [d] ∧ Rp K F H v d := by
  cases h with | cons h r => cases r; exact ⟨_, rfl, h⟩
end

/-! ### owned data -/
/-- fz: stays as it is; any: not known; lst s, dct s: a list, a dict that this frame alone has, its items of the shape s; at v s: the value is v, of shape s -/
inductive Sh where
  | fz | any
  | lst (s : Sh)
  | dct (s : Sh)
  | at_ (v : V) (s : Sh)

def All3 (R : V → D → List Addr → Prop) : List V → List D → List Addr → Prop
  | [], [], A => A = []
  | v :: vs, d :: ds, A => ∃ A1 A2, R v d A1 ∧ All3 R vs ds A2 ∧ A = A1 ++ A2
  | _, _, _ => False
def AllK (R : V → D → List Addr → Prop) : List (Key × V) → List (D × D) → List Addr → Prop
  | [], [], A => A = []
  | p :: vs, q :: ds, A => ∃ A1 A2, KeyD p.1 q.1 ∧ R p.2 q.2 A1 ∧ AllK R vs ds A2 ∧ A = A1 ++ A2
  | _, _, _ => False
def AllT (R : V → D → List Addr → Prop) : List (List Key × V) → List (D × D) → List Addr → Prop
  | [], [], A => A = []
  | p :: vs, q :: ds, A => ∃ A1 A2 dk, (KeysD p.1 dk ∧ p.1 ≠ []) ∧ q.1 = .tup dk ∧ R p.2 q.2 A1 ∧ AllT R vs ds A2 ∧ A = A1 ++ A2
  | _, _, _ => False
def Ow (K : PySem.W.Frag) (F : FS) (H : Hp) : Sh → V → D → List Addr → Prop
  | .fz, v, d, A => Rp K F H v d ∧ A = []
  | .any, _, _, A => A = []
  | .lst s, v, d, A => ∃ a vs ds B, v = .ref a ∧ d = .lst ds ∧ H a = some (.lst vs) ∧ All3 (Ow K F H s) vs ds B ∧ A = a :: B
  | .dct s, v, d, A => ∃ a ds B, v = .ref a ∧ A = a :: B ∧ ((∃ kvs, d = .dct ds ∧ H a = some (.dK kvs) ∧ AllK (Ow K F H s) kvs ds B) ∨ (∃ kvs, d = .dcT ds ∧ H a = some (.dT kvs) ∧ AllT (Ow K F H s) kvs ds B))
  | .at_ w s, v, d, A => v = w ∧ Ow K F H s v d A

variable [LamT]
/-- what owned data leans on stays -/
structure Stay (F : FS) (H : Hp) (A : List Addr) (F' : FS) (H' : Hp) : Prop where
  fut : Fut F H F' H'
  tb : LTs H → LTs H'
  own : ∀ a ∈ A, ∀ o, H a = some o → nTb o → H' a = some o

section
variable {K : PySem.W.Frag} {F F' : FS} {H H' : Hp}
theorem Stay.sub {A B} (m : Stay F H A F' H') (h : ∀ a ∈ B, a ∈ A) : Stay F H B F' H' := ⟨m.fut, m.tb, fun a ha => m.own a (h a ha)⟩
theorem all3_mono {R R' : V → D → List Addr → Prop} : ∀ {vs ds A}, (∀ v d B, (∀ b ∈ B, b ∈ A) → R v d B → R' v d B) → All3 R vs ds A → All3 R' vs ds A
  | [], [], _, _, h => h
  | _ :: _, _ :: _, A, m, ⟨A1, A2, h1, h2, e⟩ => ⟨A1, A2, m _ _ _ (fun b hb => by rw [e]; exact List.mem_append_left _ hb) h1, all3_mono (fun v d B hB => m v d B fun b hb => by rw [e]; exact List.mem_append_right _ (hB b hb)) h2, e⟩
  | [], _ :: _, _, _, h => h.elim
  | _ :: _, [], _, _, h => h.elim
theorem allK_mono {R R' : V → D → List Addr → Prop} : ∀ {vs ds A}, (∀ v d B, (∀ b ∈ B, b ∈ A) → R v d B → R' v d B) → AllK R vs ds A → AllK R' vs ds A
  | [], [], _, _, h => h
  | _ :: _, _ :: _, A, m, ⟨A1, A2, k, h1, h2, e⟩ => ⟨A1, A2, k, m _ _ _ (fun b hb => by rw [e]; exact List.mem_append_left _ hb) h1, allK_mono (fun v d B hB => m v d B fun b hb => by rw [e]; exact List.mem_append_right _ (hB b hb)) h2, e⟩
  | [], _ :: _, _, _, h => h.elim
  | _ :: _, [], _, _, h => h.elim
theorem allT_mono {R R' : V → D → List Addr → Prop} : ∀ {vs ds A}, (∀ v d B, (∀ b ∈ B, b ∈ A) → R v d B → R' v d B) → AllT R vs ds A → AllT R' vs ds A
  | [], [], _, _, h => h
  | _ :: _, _ :: _, A, m, ⟨A1, A2, dk, k, kd, h1, h2, e⟩ => ⟨A1, A2, dk, k, kd, m _ _ _ (fun b hb => by rw [e]; exact List.mem_append_left _ hb) h1, allT_mono (fun v d B hB => m v d B fun b hb => by rw [e]; exact List.mem_append_right _ (hB b hb)) h2, e⟩
  | [], _ :: _, _, _, h => h.elim
  | _ :: _, [], _, _, h => h.elim
theorem Ow.mono : ∀ {s v d A}, Stay F H A F' H' → Ow K F H s v d A → Ow K F' H' s v d A
  | .fz, _, _, _, m, ⟨r, e⟩ => ⟨r.mono m.fut, e⟩
  | .any, _, _, _, _, h => h
  | .lst s, _, _, A, m, ⟨a, vs, ds, B, ev, ed, h, r, e⟩ => ⟨a, vs, ds, B, ev, ed, m.own a (by rw [e]; exact List.mem_cons_self) _ h nt_lst,
      all3_mono (fun v d C hC hR => Ow.mono (s := s) (m.sub fun b hb => by rw [e]; exact List.mem_cons_of_mem _ (hC b hb)) hR) r, e⟩
  | .dct s, _, _, A, m, ⟨a, ds, B, ev, e, h⟩ => ⟨a, ds, B, ev, e, by
      have sub : ∀ {C : List Addr}, (∀ b ∈ C, b ∈ B) → Stay F H C F' H' := fun hC => m.sub fun b hb => by rw [e]; exact List.mem_cons_of_mem _ (hC b hb)
      have ea := m.own a (by rw [e]; exact List.mem_cons_self)
      rcases h with ⟨kvs, ed, h, r⟩ | ⟨kvs, ed, h, r⟩
      · exact .inl ⟨kvs, ed, ea _ h nt_dK, allK_mono (fun v d C hC hR => Ow.mono (s := s) (sub hC) hR) r⟩
      · exact .inr ⟨kvs, ed, ea _ h nt_dT, allT_mono (fun v d C hC hR => Ow.mono (s := s) (sub hC) hR) r⟩⟩
  | .at_ w s, _, _, _, m, ⟨ev, h⟩ => ⟨ev, Ow.mono (s := s) m h⟩
end

def Nt (x : Option HO) : Prop := x ≠ none ∧ ∀ xs, x ≠ some (.tup xs)
section
omit [LamT]
theorem all3_nt {P : Addr → Prop} {R : V → D → List Addr → Prop} (h : ∀ v d B, R v d B → ∀ b ∈ B, P b) : ∀ {vs ds A}, All3 R vs ds A → ∀ b ∈ A, P b
  | [], [], _, e, b, hb => by rw [show _ = [] from e] at hb; cases hb
  | _ :: _, _ :: _, _, ⟨A1, A2, h1, h2, e⟩, b, hb => by
    rw [e] at hb
    exact (List.mem_append.mp hb).elim (h _ _ _ h1 b) (all3_nt h h2 b)
  | [], _ :: _, _, h, _, _ => h.elim
  | _ :: _, [], _, h, _, _ => h.elim
theorem allK_nt {P : Addr → Prop} {R : V → D → List Addr → Prop} (h : ∀ v d B, R v d B → ∀ b ∈ B, P b) : ∀ {vs ds A}, AllK R vs ds A → ∀ b ∈ A, P b
  | [], [], _, e, b, hb => by rw [show _ = [] from e] at hb; cases hb
  | _ :: _, _ :: _, _, ⟨A1, A2, _, h1, h2, e⟩, b, hb => by
    rw [e] at hb
    exact (List.mem_append.mp hb).elim (h _ _ _ h1 b) (allK_nt h h2 b)
  | [], _ :: _, _, h, _, _ => h.elim
  | _ :: _, [], _, h, _, _ => h.elim
theorem allT_nt {P : Addr → Prop} {R : V → D → List Addr → Prop} (h : ∀ v d B, R v d B → ∀ b ∈ B, P b) : ∀ {vs ds A}, AllT R vs ds A → ∀ b ∈ A, P b
  | [], [], _, e, b, hb => by rw [show _ = [] from e] at hb; cases hb
  | _ :: _, _ :: _, _, ⟨A1, A2, _, _, _, h1, h2, e⟩, b, hb => by
    rw [e] at hb
    exact (List.mem_append.mp hb).elim (h _ _ _ h1 b) (allT_nt h h2 b)
  | [], _ :: _, _, h, _, _ => h.elim
  | _ :: _, [], _, h, _, _ => h.elim
theorem Ow.nt {K : PySem.W.Frag} {F : FS} {H : Hp} : ∀ {s v d A}, Ow K F H s v d A → ∀ b ∈ A, Nt (H b)
  | .fz, _, _, _, ⟨_, e⟩, b, hb => by rw [e] at hb; cases hb
  | .any, _, _, _, e, b, hb => by rw [show _ = [] from e] at hb; cases hb
  | .lst s, _, _, _, ⟨a, vs, ds, B, ev, ed, h, r, e⟩, b, hb => by
    rw [e] at hb
    rcases List.mem_cons.mp hb with z | z
    · rw [z, h]; exact ⟨fun z => (nomatch z), fun _ z => nomatch z⟩
    · exact all3_nt (fun v d B r => Ow.nt (s := s) r) r b z
  | .dct s, _, _, _, ⟨a, ds, B, ev, e, h⟩, b, hb => by
    rw [e] at hb
    rcases h with ⟨kvs, _, h, r⟩ | ⟨kvs, _, h, r⟩
    · rcases List.mem_cons.mp hb with z | z
      · rw [z, h]; exact ⟨fun z => (nomatch z), fun _ z => nomatch z⟩
      · exact allK_nt (fun v d B r => Ow.nt (s := s) r) r b z
    · rcases List.mem_cons.mp hb with z | z
      · rw [z, h]; exact ⟨fun z => (nomatch z), fun _ z => nomatch z⟩
      · exact allT_nt (fun v d B r => Ow.nt (s := s) r) r b z
  | .at_ _ s, _, _, _, ⟨_, h⟩, b, hb => Ow.nt (s := s) h b hb
end
/-! ### a frame's slots -/
abbrev Env := List (Option D)
def EnvR (K : PySem.W.Frag) (F : FS) (H : Hp) : List Sh → L2.St → Env → List Addr → Prop
  | [], [], [], A => A = [] ∧ TbI F H
  | _ :: G, _ :: σ, none :: ρ, A => EnvR K F H G σ ρ A
  | s :: G, some v :: σ, some d :: ρ, A => ∃ A1 A2, Ow K F H s v d A1 ∧ EnvR K F H G σ ρ A2 ∧ A = A1 ++ A2
  | _, _, _, _ => False
theorem ntl {vs} : Nt (some (.lst vs)) := ⟨fun z => (nomatch z), fun _ z => nomatch z⟩
theorem ntk {vs} : Nt (some (.dK vs)) := ⟨fun z => (nomatch z), fun _ z => nomatch z⟩
theorem nt_none {x : Option HO} (h : x = none) : ¬ Nt x := fun z => z.1 h
theorem nt_isT {x : Option HO} {xs} (h : x = some (.tup xs)) : ¬ Nt x := fun z => z.2 xs h
theorem Nt.kp {o : HO} {x : Option HO} (h : Nt (some o)) (k : Kp o x) : Nt x := by
  rcases k with k | ⟨_, _, _, k⟩
  · rw [k]; exact h
  · rw [k]; exact ⟨fun z => (nomatch z), fun _ z => nomatch z⟩
theorem Nt.step {x y : Option HO} (h : Nt x) (k : ∀ o, x = some o → Kp o y) : Nt y := by
  cases e : x with
  | none => exact absurd e h.1
  | some o => exact Nt.kp (e ▸ h) (k o e)
/-- F: what stays, A: what is owned -/
structure Wf (F : FS) (H : Hp) (A : List Addr) : Prop where
  f : ∀ a, F a → H a ≠ none
  a : ∀ a ∈ A, Nt (H a)
  nd : A.Nodup
  ap : ∀ a ∈ A, ¬ F a
/-- a step: what isn't owned is kept; more stays; what is owned was owned, or is new -/
structure Stp (F : FS) (H : Hp) (A : List Addr) (F' : FS) (H' : Hp) (A' : List Addr) : Prop where
  f : ∀ a, F a → F' a
  keep : ∀ b o, H b = some o → b ∉ A → Kp o (H' b)
  own : ∀ b ∈ A', b ∈ A ∨ H b = none
  fn : ∀ b, F' b → F b ∨ b ∈ A ∨ ¬ Nt (H b)
  tb : LTs H → LTs H'
/-- a step that changes nothing -/
structure Pst (F : FS) (H : Hp) (F' : FS) (H' : Hp) : Prop where
  f : ∀ a, F a → F' a
  keep : ∀ b o, H b = some o → Kp o (H' b)
  tb : LTs H → LTs H'
  new : ∀ a, F' a → F a ∨ (¬ Nt (H a) ∧ H' a ≠ none)

section
variable {K : PySem.W.Frag} {F F' F1 F2 : FS} {H H' H1 H2 : Hp} {A A' A1 A2 : List Addr}
theorem Stp.refl : Stp F H A F H A := ⟨fun _ h => h, fun _ _ h _ => .inl h, fun _ h => .inl h, fun _ h => .inl h, id⟩
theorem Stp.trans (x : Stp F H A F1 H1 A1) (y : Stp F1 H1 A1 F2 H2 A2) : Stp F H A F2 H2 A2 := by
  have nn : ∀ b, H1 b = none → b ∈ A ∨ H b = none := fun b q => by
    by_cases hA : b ∈ A
    · exact .inl hA
    · refine .inr ?_
      cases e : H b with
      | none => rfl
      | some o => exact absurd q (x.keep b o e hA).ne
  refine ⟨fun a h => y.f a (x.f a h), fun b o e n => (x.keep b o e n).trans fun u hu => y.keep b u hu fun z => ?_, fun b hb => ?_, fun b hb => ?_, fun t => y.tb (x.tb t)⟩
  · rcases x.own b z with q | q
    · exact n q
    · rw [e] at q; cases q
  · rcases y.own b hb with q | q
    · exact x.own b q
    · exact nn b q
  · rcases y.fn b hb with q | q | q
    · exact x.fn b q
    · exact .inr ((x.own b q).imp id nt_none)
    · by_cases hA : b ∈ A
      · exact .inr (.inl hA)
      · exact .inr (.inr fun z => q (z.step fun o e => x.keep b o e hA))
theorem Pst.refl : Pst F H F H := ⟨fun _ h => h, fun _ _ h => .inl h, id, fun _ h => .inl h⟩
theorem Pst.nn (x : Pst F H F' H') {b : Addr} (h : H' b = none) : H b = none := by
  cases e : H b with
  | none => rfl
  | some o => exact absurd h (x.keep b o e).ne
theorem Pst.trans (x : Pst F H F1 H1) (y : Pst F1 H1 F2 H2) : Pst F H F2 H2 := by
  refine ⟨fun a h => y.f a (x.f a h), fun b o e => (x.keep b o e).trans fun u hu => y.keep b u hu, fun t => y.tb (x.tb t), fun a h => ?_⟩
  rcases y.new a h with q | ⟨q, q'⟩
  · rcases x.new a q with z | ⟨z, z'⟩
    · exact .inl z
    · refine .inr ⟨z, fun e => ?_⟩
      cases e1 : H1 a with
      | none => exact z' e1
      | some o => exact (y.keep a o e1).ne e
  · exact .inr ⟨fun z => q (z.step fun o e => x.keep a o e), q'⟩
theorem Stp.fut (x : Stp F H A F' H' A') (w : Wf F H A) : Fut F H F' H' := ⟨x.f, fun a o f e => x.keep a o e fun z => w.ap a z f⟩
theorem Pst.fut (x : Pst F H F' H') : Fut F H F' H' := ⟨x.f, fun a o _ e => x.keep a o e⟩
theorem LTs.ext {H H' : Hp} (h : LTs H) (k : ∀ b o, H b = some o → H' b = some o) : LTs H' := ⟨LamX.Tabs.ext h.1 k, fun p hp => k _ _ (h.2 p hp)⟩
theorem LTs.lay {H : Hp} {p : Addr} {o : HO} (h : LTs H) (hp : H p = none) : LTs (L2.upd H p o) := h.ext fun b u e => by
  rw [upd_ne (fun z => by rw [z, hp] at e; cases e)]; exact e
theorem LTs.upd {H : Hp} {a : Addr} {u v : HO} (h : LTs H) (ha : H a = some u) (n : nTb u) (c : ∀ q, u ≠ LamX.CodeO a q) : LTs (upd H a v) := ⟨fun p hp => by
  obtain ⟨ps, h1, h2, h3⟩ := h.1 p hp
  have np : p.1 ≠ a := fun z => by rw [z, ha] at h1; exact n ps (Option.some.inj h1)
  refine ⟨ps, by rw [upd_ne np]; exact h1, h2, fun pos cv hc => ?_⟩
  obtain ⟨k, e1, e2⟩ := h3 pos cv hc
  refine ⟨k, e1, ?_⟩
  by_cases z : k = a
  · subst z
    rw [ha] at e2
    exact absurd (Option.some.inj e2) (c _)
  · rw [upd_ne z]; exact e2, fun p hp => by
  have e := h.2 p hp
  have z : p.1 ≠ a := fun z => by
    subst z
    rw [ha] at e
    exact absurd (Option.some.inj e) (c _)
  rw [upd_ne z]; exact e⟩
theorem LTs.updL {H : Hp} {a : Addr} {vs : List V} {v : HO} (h : LTs H) (ha : H a = some (.lst vs)) : LTs (L2.upd H a v) := h.upd ha nt_lst fun q z => by unfold LamX.CodeO at z; cases z
theorem LTs.updK {H : Hp} {a : Addr} {vs : List (Key × V)} {v : HO} (h : LTs H) (ha : H a = some (.dK vs)) : LTs (L2.upd H a v) := h.upd ha nt_dK fun q z => by unfold LamX.CodeO at z; cases z
theorem Pst.stay (x : Pst F H F' H') (w : ∀ a ∈ A, Nt (H a)) : Stay F H A F' H' := ⟨x.fut, x.tb, fun a _ o e t => (x.keep a o e).eq t⟩
theorem Pst.stp (x : Pst F H F' H') : Stp F H A F' H' A := ⟨x.f, fun b o e _ => x.keep b o e, fun b hb => .inl hb, fun b hb => (x.new b hb).elim .inl fun z => .inr (.inr z.1), x.tb⟩
theorem Pst.wf (x : Pst F H F' H') (w : Wf F H A) : Wf F' H' A := by
  have keepN : ∀ a, H a ≠ none → H' a ≠ none := fun a n e => by
    cases q : H a with
    | none => exact n q
    | some o => exact (x.keep a o q).ne e
  refine ⟨fun a h => ?_, fun a ha => (w.a a ha).step fun o e => x.keep a o e, w.nd, fun a ha h => ?_⟩
  · rcases x.new a h with q | ⟨_, q⟩
    · exact keepN a (w.f a q)
    · exact q
  · rcases x.new a h with q | ⟨q, _⟩
    · exact w.ap a ha q
    · exact q (w.a a ha)
theorem EnvR.mono : ∀ {G : List Sh} {σ : L2.St} {ρ : Env} {A}, Stay F H A F' H' → EnvR K F H G σ ρ A → EnvR K F' H' G σ ρ A
  | [], [], [], _, m, h => ⟨h.1, m.tb h.2.1, h.2.2.mono m.fut⟩
  | _ :: _, _ :: _, none :: _, _, m, h => by
    have h' := EnvR.mono m (show EnvR K F H _ _ _ _ from by simpa only [EnvR] using h)
    simpa only [EnvR] using h'
  | _ :: _, some _ :: _, some _ :: _, A, m, ⟨A1, A2, h1, h2, e⟩ => ⟨A1, A2, h1.mono (m.sub fun b hb => by rw [e]; exact List.mem_append_left _ hb), EnvR.mono (m.sub fun b hb => by rw [e]; exact List.mem_append_right _ hb) h2, e⟩
  | [], [], _ :: _, _, _, h => by simp [EnvR] at h
  | [], _ :: _, _, _, _, h => by simp [EnvR] at h
  | _ :: _, [], _, _, _, h => by simp [EnvR] at h
  | _ :: _, _ :: _, [], _, _, h => by simp [EnvR] at h
  | _ :: _, none :: _, some _ :: _, _, _, h => by simp [EnvR] at h
theorem EnvR.tb : ∀ {G : List Sh} {σ : L2.St} {ρ : Env} {A}, EnvR K F H G σ ρ A → TbI F H
  | [], [], [], _, h => h.2
  | _ :: _, _ :: _, none :: _, _, h => EnvR.tb (show EnvR K F H _ _ _ _ from by simpa only [EnvR] using h)
  | _ :: _, some _ :: _, some _ :: _, A, ⟨A1, A2, h1, h2, e⟩ => EnvR.tb h2
  | [], [], _ :: _, _, h => by simp [EnvR] at h
  | [], _ :: _, _, _, h => by simp [EnvR] at h
  | _ :: _, [], _, _, h => by simp [EnvR] at h
  | _ :: _, _ :: _, [], _, h => by simp [EnvR] at h
  | _ :: _, none :: _, some _ :: _, _, h => by simp [EnvR] at h
theorem EnvR.len : ∀ {G : List Sh} {σ : L2.St} {ρ : Env} {A}, EnvR K F H G σ ρ A → G.length = σ.length ∧ σ.length = ρ.length
  | [], [], [], _, h => ⟨rfl, rfl⟩
  | _ :: _, _ :: _, none :: _, _, h => by
    have := EnvR.len (show EnvR K F H _ _ _ _ from by simpa only [EnvR] using h)
    simp [this]
  | _ :: _, some _ :: _, some _ :: _, A, ⟨A1, A2, h1, h2, e⟩ => by
    have := EnvR.len h2
    simp [this]
  | [], [], _ :: _, _, h => by simp [EnvR] at h
  | [], _ :: _, _, _, h => by simp [EnvR] at h
  | _ :: _, [], _, _, h => by simp [EnvR] at h
  | _ :: _, _ :: _, [], _, h => by simp [EnvR] at h
  | _ :: _, none :: _, some _ :: _, _, h => by simp [EnvR] at h
theorem EnvR.get : ∀ {G : List Sh} {σ : L2.St} {ρ : Env} {A} {i : Nat} {s : Sh} {d : D}, EnvR K F H G σ ρ A → G[i]? = some s → ρ[i]? = some (some d) → ∃ v B, σ[i]? = some (some v) ∧ Ow K F H s v d B ∧ ∀ b ∈ B, b ∈ A
  | [], [], [], _, i, s, d, h, e, _ => by simp at e
  | _ :: G, _ :: σ, none :: ρ, A, 0, s, d, h, _, e => by simp at e
  | g :: G, x :: σ, none :: ρ, A, i + 1, s, d, h, e, e' => by
    obtain ⟨v, B, a, b, c⟩ := EnvR.get (i := i) (by simpa only [EnvR] using h) (by simpa using e) (by simpa using e')
    exact ⟨v, B, by simpa using a, b, c⟩
  | g :: G, some v :: σ, some d' :: ρ, A, 0, s, d, ⟨A1, A2, h1, h2, eA⟩, e, e' => by
    simp at e e'; subst e; subst e'
    exact ⟨v, A1, rfl, h1, fun b hb => by rw [eA]; exact List.mem_append_left _ hb⟩
  | g :: G, some w :: σ, some d' :: ρ, A, i + 1, s, d, ⟨A1, A2, h1, h2, eA⟩, e, e' => by
    obtain ⟨v, B, a, b, c⟩ := EnvR.get (i := i) h2 (by simpa using e) (by simpa using e')
    exact ⟨v, B, by simpa using a, b, fun x hx => by rw [eA]; exact List.mem_append_right _ (c x hx)⟩
  | [], [], _ :: _, _, _, _, _, h, _, _ => by simp [EnvR] at h
  | [], _ :: _, _, _, _, _, _, h, _, _ => by simp [EnvR] at h
  | _ :: _, [], _, _, _, _, _, h, _, _ => by simp [EnvR] at h
  | _ :: _, _ :: _, [], _, _, _, _, h, _, _ => by simp [EnvR] at h
  | _ :: _, none :: _, some _ :: _, _, _, _, _, h, _, _ => by simp [EnvR] at h
theorem EnvR.set : ∀ {G : List Sh} {σ : L2.St} {ρ : Env} {A} {i : Nat} {s : Sh} {v : V} {d : D} {B : List Addr}, EnvR K F H G σ ρ A → i < G.length → Ow K F H s v d B →
    ∃ A', EnvR K F H (G.set i s) (σ.set i (some v)) (ρ.set i (some d)) A' ∧ (∀ b ∈ A', b ∈ A ∨ b ∈ B) ∧ (A.Nodup → B.Nodup → (∀ b ∈ B, b ∉ A) → A'.Nodup) ∧ (∀ b ∈ B, b ∈ A')
  | [], [], [], _, i, s, v, d, B, h, hi, _ => by simp at hi
  | g :: G, x :: σ, none :: ρ, A, 0, s, v, d, B, h, _, o => by
    refine ⟨B ++ A, ⟨B, A, o, by simpa only [EnvR] using h, rfl⟩, fun b hb => (List.mem_append.mp hb).symm, fun n1 n2 n3 => List.nodup_append.mpr ⟨n2, n1, fun a ha b hb e => n3 a ha (e ▸ hb)⟩, fun b hb => List.mem_append_left _ hb⟩
  | g :: G, x :: σ, none :: ρ, A, i + 1, s, v, d, B, h, hi, o => by
    obtain ⟨A', h1, h2, h3, h4⟩ := EnvR.set (i := i) (by simpa only [EnvR] using h) (by simpa using hi) o
    exact ⟨A', by simpa only [List.set, EnvR] using h1, h2, h3, h4⟩
  | g :: G, some w :: σ, some d' :: ρ, A, 0, s, v, d, B, ⟨A1, A2, h1, h2, eA⟩, _, o => by
    refine ⟨B ++ A2, ⟨B, A2, o, h2, rfl⟩, fun b hb => ?_, fun n1 n2 n3 => ?_, fun b hb => List.mem_append_left _ hb⟩
    · rcases List.mem_append.mp hb with z | z
      · exact .inr z
      · exact .inl (by rw [eA]; exact List.mem_append_right _ z)
    · rw [eA] at n1 n3
      exact List.nodup_append.mpr ⟨n2, (List.nodup_append.mp n1).2.1, fun a ha b hb e => n3 a ha (List.mem_append_right _ (e ▸ hb))⟩
  | g :: G, some w :: σ, some d' :: ρ, A, i + 1, s, v, d, B, ⟨A1, A2, h1, h2, eA⟩, hi, o => by
    obtain ⟨A', g1, g2, g3, g4⟩ := EnvR.set (i := i) h2 (by simpa using hi) o
    refine ⟨A1 ++ A', ⟨A1, A', h1, g1, rfl⟩, fun b hb => ?_, fun n1 n2 n3 => ?_, fun b hb => List.mem_append_right _ (g4 b hb)⟩
    · rcases List.mem_append.mp hb with z | z
      · exact .inl (by rw [eA]; exact List.mem_append_left _ z)
      · rcases g2 b z with q | q
        · exact .inl (by rw [eA]; exact List.mem_append_right _ q)
        · exact .inr q
    · rw [eA] at n1 n3
      obtain ⟨m1, m2, m3⟩ := List.nodup_append.mp n1
      refine List.nodup_append.mpr ⟨m1, g3 m2 n2 fun b hb z => n3 b hb (List.mem_append_right _ z), fun a ha b hb e => ?_⟩
      rcases g2 b hb with q | q
      · exact m3 a ha b q e
      · exact n3 b q (List.mem_append_left _ (e ▸ ha))
  | [], [], _ :: _, _, _, _, _, _, _, h, _, _ => by simp [EnvR] at h
  | [], _ :: _, _, _, _, _, _, _, _, h, _, _ => by simp [EnvR] at h
  | _ :: _, [], _, _, _, _, _, _, _, h, _, _ => by simp [EnvR] at h
  | _ :: _, _ :: _, [], _, _, _, _, _, _, h, _, _ => by simp [EnvR] at h
  | _ :: _, none :: _, some _ :: _, _, _, _, _, _, _, h, _, _ => by simp [EnvR] at h
end
end DM
/-! DmAb: readings that lay a tuple, with what its object is. -/
namespace DM
open PySem PySem.Spec PyProof.Rows L2
def TQ (H : Hp) (xs : List V) (Q : VK) : Prop := ∀ (p : Addr) (o : Obj), H p = none → o.dict = none → Q (.ref p) (upd H p (TO o xs))
section
variable {P : Program} {w : World}
theorem obj_TO {H : Hp} {h : Heap} {a : Addr} {o : Obj} {ys : List V} {its : Array Value} {n : Nat} (hz : ys.length ≤ sizeLine) (r : Vals ys its.toList) (e : h.get? a = some o) (hc : o.cls = .type "tuple") (hd : o.data = .seq its n) : ObjOk P w H h a (TO o ys) := by
  have t : ObjOk P w H h a (.tup ys) := ⟨hz, its.toList, r, o, e, hc, n, by simpa using hd⟩
  unfold TO
  split
  · exact t
  · exact ⟨e, t⟩
end
section
variable {X : Cx} {pins : List (Addr × Obj)} {σ : L2.St} {H : Hp} {s : Shared} {ys : List V} {Q : VK}
theorem lay_TO {h' : Heap} {tk : Nat} {its : Array Value} {n : Nat} (I : Inv X pins σ H s) (k : ∀ b u, s.heap.get? b = some u → h'.get? b = some u) (hp : s.heap.objs.size ≤ h'.objs.size) (hz : ys.length ≤ sizeLine) (r : Vals ys its.toList) (q : TQ H ys Q) :
    EP X pins σ Q (.ref h'.objs.size) { s with heap := h'.push { cls := .type "tuple", data := .seq its n }, toks := tk } := by
  have e : (h'.push { cls := .type "tuple", data := .seq its n }).get? h'.objs.size = some { cls := .type "tuple", data := .seq its n } := Heap.get?_push_size _ rfl
  exact ⟨.ref h'.objs.size, _, I.laid (t' := tk) (fun b u z => Heap.get?_push_of_some _ (k b u z)) hp (obj_TO hz r e rfl rfl), rfl, q _ _ (I.hok.fresh hp) rfl⟩
end
section
variable {X : Cx} {es : List Expr} {pos : Pos} {t : TA}
def tTupN (t : TA) : TE := fun σ H Q => t σ H fun xs H1 => xs.length ≤ sizeLine ∧ TQ H1 xs Q
theorem pe_tupN {x1} (h : PA X es t) : PE X (.Tuple es x1 pos) (tTupN t) := by
  refine ⟨fun pins s σ H Q I hq => ?_⟩
  refine wpAny_Tuple_spliced (thn (h.run pos pins s σ H _ I hq) fun us s1 ⟨xs, H1, I1, r, z, q⟩ => ⟨by rw [← r.length]; exact z, ?_⟩)
  exact lay_TO (tk := s1.toks) (h' := s1.heap) I1 (fun _ _ e => e) (Nat.le_refl _) z (by simpa using r) q
def rCatN (K : PySem.W.Frag) : R2 := fun x y H Q => ∃ a b xs ys, x = .ref a ∧ y = .ref b ∧ SqT K H a xs ∧ SqT K H b ys ∧ xs.length + ys.length ≤ sizeLine ∧
  (xs = [] → Q (.ref b) H) ∧ (xs ≠ [] → ys = [] → Q (.ref a) H) ∧ (xs ≠ [] → ys ≠ [] → TQ H (xs ++ ys) Q)
theorem op_catN : OpR X (binaryOp .Add) (rCatN X.K) := by
  intro pins s σ H x y v u Q I rx ry h
  obtain ⟨a, b, xs, ys, rfl, rfl, ha, hb, hz, q0, q1, q2⟩ := h
  by_cases hx : xs = []
  · subst hx
    cases rx
    cases ry
    obtain ⟨its, r1, p1, _⟩ := I.tuple ha
    obtain ⟨its2, r2, p2, _⟩ := I.tuple hb
    cases r1
    exact cat_tup0 p1 p2 ⟨.ref b, H, I, rfl, q0 rfl⟩
  · cases rx
    cases ry
    obtain ⟨its, r1, p1, _⟩ := I.tuple ha
    obtain ⟨its2, r2, p2, _⟩ := I.tuple hb
    refine HT.cat_tup p1 p2 (fun z => hx (r1.nil_iff.mp z)) (fun z => ⟨.ref a, H, I, rfl, q1 hx (r2.nil_iff.mp z)⟩) (fun z => ?_) (by rw [← r1.length, ← r2.length]; exact hz)
    exact lay_TO (tk := s.toks) (h' := s.heap) I (fun _ _ e => e) (Nat.le_refl _) (by rw [List.length_append]; exact hz) (by simpa using r1.append r2) (q2 hx fun w => z (r2.nil_iff.mpr w))
def rSlN (K : PySem.W.Frag) : V → Option Int → Option Int → Hp → VK → Prop := fun x lo hi H Q => ∃ a xs, x = .ref a ∧ SqT K H a xs ∧
  (HT.sIx xs.length 0 lo = 0 ∧ HT.sIx xs.length xs.length hi = xs.length → Q (.ref a) H) ∧ (¬ (HT.sIx xs.length 0 lo = 0 ∧ HT.sIx xs.length xs.length hi = xs.length) → TQ H (cutV xs lo hi) Q)
theorem sl_tupN : SlR X (rSlN X.K) := by
  intro pins s σ H x v vl vu lo hi sl Q I rx hs pl pu h
  obtain ⟨a, xs, rfl, hx, q1, q2⟩ := h
  cases rx
  obtain ⟨its, r, ht, hz⟩ := I.tuple hx
  have hlen : its.toArray.size = xs.length := by rw [List.size_toArray]; exact r.length.symm
  refine ⟨"tuple", _, PyProof.Rows.slot_tuple_getitem.lookup, ht.typeIs, ?_⟩
  by_cases hw : HT.sIx xs.length 0 lo = 0 ∧ HT.sIx xs.length xs.length hi = xs.length
  · exact getItem_tuple_whole ht hs pl pu (by rw [hlen]; exact hw) ⟨.ref a, H, I, rfl, q1 hw⟩
  · refine HT.getItem_tuple_cut ht hs pl pu (by rw [hlen]; exact hw) ?_ (by rw [hlen]; exact hz)
    rw [hlen]
    exact lay_TO (tk := s.toks) (h' := s.heap) I (fun _ _ e => e) (Nat.le_refl _) (Nat.le_trans (cutV_length xs lo hi) hz) (by unfold cutV; simpa using (r.drop (HT.sIx xs.length 0 lo)).take (HT.sIx xs.length xs.length hi - HT.sIx xs.length 0 lo)) (q2 hw)
theorem call_tupleN : CallR X (.type "tuple") (fun xs H Q => ∃ p ys, xs = [.ref p] ∧ ((SqL X.K H p ys ∧ TQ H ys Q) ∨ (SqT X.K H p ys ∧ Q (.ref p) H))) := by
  intro pins s σ H xs us Q I r h
  obtain ⟨p, ys, rfl, h⟩ := h
  obtain ⟨u, rfl, rx⟩ := vals1 r
  cases rx
  rcases h with ⟨hq, q⟩ | ⟨hq, q⟩
  · obtain ⟨its, r', pl, hz⟩ := I.list hq
    have hlen := r'.length
    refine call_tuple_list pl.isList (fun h' kp => ?_) (by simp only [List.size_toArray] <;> omega)
    have I1 : Inv X pins σ H { s with heap := h' } := I.kept (t' := s.toks) kp
    exact lay_TO (s := { s with heap := h' }) (tk := s.toks) (h' := h') I1 (fun _ _ e => e) (Nat.le_refl _) hz (by simpa using r') q
  · obtain ⟨its, r', pl, hz⟩ := I.tuple hq
    exact call_tuple_same pl ⟨.ref p, H, I, rfl, q⟩
end
end DM
/-! DmB: outcomes, judgements, names, constants, operators, tests. -/
namespace DM
open PySem PySem.Spec PyProof.Rows L2
variable [LamT]

/-- an exception: its class by name, its fields -/
structure Xn where
  c : Str
  fs : List (Str × D) := []
inductive Out (α : Type) where
  | ok (a : α) (ρ : Env)
  | exc (x : Xn) (ρ : Env)
  | bad
def Out.bind {α β : Type} : Out α → (α → Env → Out β) → Out β
  | .ok a ρ, k => k a ρ
  | .exc x ρ, _ => .exc x ρ
  | .bad, _ => .bad
@[simp] theorem Out.bind_ok {α β : Type} (a : α) (ρ : Env) (k : α → Env → Out β) : (Out.ok a ρ).bind k = k a ρ := rfl
@[simp] theorem Out.bind_exc {α β : Type} (x : Xn) (ρ : Env) (k : α → Env → Out β) : (Out.exc x ρ : Out α).bind k = .exc x ρ := rfl
@[simp] theorem Out.bind_bad {α β : Type} (k : α → Env → Out β) : (Out.bad : Out α).bind k = .bad := rfl
abbrev Mi (α : Type) := Env → Out α
def ret {α : Type} (a : α) : Mi α := fun ρ => .ok a ρ
def lift {α : Type} : Option α → Mi α
  | some a => fun ρ => .ok a ρ
  | none => fun _ => .bad
def bnd {α β : Type} (m : Mi α) (k : α → Mi β) : Mi β := fun ρ => (m ρ).bind k

def FsR (K : PySem.W.Frag) (F : FS) (H : Hp) : List (Str × V) → List (Str × D) → Prop
  | [], [] => True
  | p :: vs, q :: ds => p.1 = q.1 ∧ Rp K F H p.2 q.2 ∧ FsR K F H vs ds
  | _, _ => False
def XR (K : PySem.W.Frag) (mg : Str → Option Value) (F : FS) (H : Hp) (x : Xn) (cls : Value) (dd : Option Addr) : Prop :=
  mg x.c = some cls ∧ match x.fs with
    | [] => dd = none
    | _ :: _ => ∃ d vs, dd = some d ∧ F d ∧ Rd H d (.xd vs) ∧ FsR K F H vs x.fs
theorem FsR.mono {K : PySem.W.Frag} {F F' : FS} {H H' : Hp} (m : Fut F H F' H') : ∀ {vs ds}, FsR K F H vs ds → FsR K F' H' vs ds
  | [], [], _ => trivial
  | _ :: _, _ :: _, ⟨a, b, c⟩ => ⟨a, b.mono m, FsR.mono m c⟩
  | [], _ :: _, h => h.elim
  | _ :: _, [], h => h.elim
theorem XR.mono {K : PySem.W.Frag} {mg : Str → Option Value} {F F' : FS} {H H' : Hp} {x cls dd} (m : Fut F H F' H') (h : XR K mg F H x cls dd) : XR K mg F' H' x cls dd := by
  refine ⟨h.1, ?_⟩
  have h2 := h.2
  split at h2
  · exact h2
  · obtain ⟨d, vs, e, f, r, q⟩ := h2
    exact ⟨d, vs, e, m.f _ f, m.r _ _ f nt_xd r, q.mono m⟩

abbrev Rel (β α : Type) := FS → Hp → β → α → Prop
def Rc (K : PySem.W.Frag) : Rel V D := fun _ H v d => Rp K (fun _ => True) H v d
def RB : Rel Bool Bool := fun _ _ b c => b = c
def Pg {α β : Type} (X : Cx) (W : WX) (p : Bool) (R : Rel β α) (G : List Sh) (σ : L2.St) (F : FS) (H : Hp) (A : List Addr) (ρ : Env) (o : Out α) (Q : β → Hp → Prop) : Prop :=
  match o with
  | .ok a ρ' => ∀ b H' F' A', Stp F H A F' H' A' → Wf F' H' A' → EnvR X.K F' H' G σ ρ' A' → R F' H' b a → (p = true → Pst F H F' H' ∧ A' = A ∧ ρ' = ρ) → Q b H'
  | .exc x ρ' => ∀ cls dd H' F' A', Stp F H A F' H' A' → Wf F' H' A' → EnvR X.K F' H' G σ ρ' A' → XR X.K X.mg F' H' x cls dd → (p = true → Pst F H F' H' ∧ A' = A ∧ ρ' = ρ) → W cls dd σ H'
  | .bad => False

def Tl {α β : Type} (X : Cx) (W : WX) (p : Bool) (R : Rel β α) (G : List Sh) (t : L2.St → Hp → (β → Hp → Prop) → Prop) (m : Mi α) : Prop :=
  ∀ F H A σ ρ Q, Wf F H A → EnvR X.K F H G σ ρ A → Pg X W p R G σ F H A ρ (m ρ) Q → t σ H Q

section
variable {X : Cx} {W : WX} {p p1 p2 : Bool} {G : List Sh} {α β γ δ : Type} {R : Rel β α} {R2 : Rel δ γ} {F F1 : FS} {H H1 : Hp} {A A1 : List Addr} {σ : L2.St} {ρ ρ1 : Env}
theorem Pg.after {o : Out α} {Q : β → Hp → Prop} (s : Stp F H A F1 H1 A1) (e : p1 = true → Pst F H F1 H1 ∧ A1 = A ∧ ρ1 = ρ) (h : Pg X W (p1 && p2) R G σ F H A ρ o Q) : Pg X W p2 R G σ F1 H1 A1 ρ1 o Q := by
  have j : ∀ {F' H' A' ρ'}, (p2 = true → Pst F1 H1 F' H' ∧ A' = A1 ∧ ρ' = ρ1) → ((p1 && p2) = true → Pst F H F' H' ∧ A' = A ∧ ρ' = ρ) := fun z q => by
    obtain ⟨q1, q2⟩ := Bool.and_eq_true_iff.mp q
    obtain ⟨a, b, c⟩ := e q1
    obtain ⟨a', b', c'⟩ := z q2
    exact ⟨a.trans a', b'.trans b, c'.trans c⟩
  cases o with
  | ok a ρ' => exact fun b H' F' A' st wf en r pp => h b H' F' A' (s.trans st) wf en r (j pp)
  | exc x ρ' => exact fun cls dd H' F' A' st wf en r pp => h cls dd H' F' A' (s.trans st) wf en r (j pp)
  | bad => exact h
theorem Tl.use {t : L2.St → Hp → (β → Hp → Prop) → Prop} {m : Mi α} {k : α → Mi γ} {Q : δ → Hp → Prop} {Q1 : β → Hp → Prop} (h1 : Tl X W p1 R G t m) (wf : Wf F H A) (en : EnvR X.K F H G σ ρ A)
    (h : Pg X W (p1 && p2) R2 G σ F H A ρ (bnd m k ρ) Q)
    (hk : ∀ a ρ1 b H1 F1 A1, Stp F H A F1 H1 A1 → Wf F1 H1 A1 → EnvR X.K F1 H1 G σ ρ1 A1 → R F1 H1 b a → (p1 = true → Pst F H F1 H1) → Pg X W p2 R2 G σ F1 H1 A1 ρ1 (k a ρ1) Q → Q1 b H1) : t σ H Q1 := by
  refine h1 F H A σ ρ Q1 wf en ?_
  unfold bnd at h
  cases e : m ρ with
  | ok a ρ' =>
    rw [e] at h
    exact fun b H' F' A' st wf' en' r pp => hk a ρ' b H' F' A' st wf' en' r (fun q => (pp q).1) (Pg.after st pp h)
  | exc x ρ' =>
    rw [e] at h
    exact fun cls dd H' F' A' st wf' en' r pp => h cls dd H' F' A' st wf' en' r fun q => pp (Bool.and_eq_true_iff.mp q).1
  | bad => rw [e] at h; exact h
theorem Pg.fin {d : α} {Q : β → Hp → Prop} {b : β} (wf : Wf F H A) (en : EnvR X.K F H G σ ρ A) (h : Pg X W p R G σ F H A ρ (.ok d ρ) Q) (s : Pst F H F1 H1) (r : R F1 H1 b d) : Q b H1 :=
  h b H1 F1 A s.stp (s.wf wf) (en.mono (s.stay wf.a)) r fun _ => ⟨s, rfl, rfl⟩
theorem Pg.fin0 {d : α} {Q : β → Hp → Prop} {b : β} (wf : Wf F H A) (en : EnvR X.K F H G σ ρ A) (h : Pg X W p R G σ F H A ρ (.ok d ρ) Q) (r : R F H b d) : Q b H := h.fin wf en Pst.refl r
theorem Tl.weak {t : L2.St → Hp → (β → Hp → Prop) → Prop} {m : Mi α} (h : Tl X W p R G t m) : Tl X W false R G t m := by
  intro F H A σ ρ Q wf en hp
  refine h F H A σ ρ Q wf en ?_
  cases e : m ρ with
  | ok a ρ' => rw [e] at hp; exact fun b H' F' A' st wf' en' r _ => hp b H' F' A' st wf' en' r fun z => nomatch z
  | exc x ρ' => rw [e] at hp; exact fun cls dd H' F' A' st wf' en' r _ => hp cls dd H' F' A' st wf' en' r fun z => nomatch z
  | bad => rw [e] at hp; exact hp
end

/-! ### the judgements of expressions -/
def DE (X : Cx) (W : WX) (p : Bool) (G : List Sh) (e : Expr) (m : Mi D) : Prop := ∃ t, PE X e t ∧ Tl X W p (Rp X.K) G t m
def DC (X : Cx) (W : WX) (p : Bool) (G : List Sh) (e : Expr) (m : Mi D) : Prop := ∃ t, PE X e t ∧ Tl X W p (Rc X.K) G t m
def DT (X : Cx) (W : WX) (p : Bool) (G : List Sh) (e : Expr) (m : Mi Bool) : Prop := ∃ t, PT X e t ∧ Tl X W p RB G t m
def DW (X : Cx) (W : WX) (p : Bool) (G : List Sh) (e : Expr) (m : Mi Bool) : Prop := ∃ t, PW X e t ∧ Tl X W p RB G t m
def DA (X : Cx) (W : WX) (p : Bool) (G : List Sh) (es : List Expr) (m : Mi (List D)) : Prop := ∃ t, PA X es t ∧ Tl X W p (fun F H vs ds => Rps X.K F H vs ds ∧ vs.length = es.length) G t m

theorem Rp.rc {K : PySem.W.Frag} {F : FS} {H : Hp} {v : V} {d : D} (h : Rp K F H v d) : Rp K (fun _ => True) H v d :=
  h.mono ⟨fun _ _ => trivial, fun _ _ _ h => .inl h⟩

/-! ### names, constants -/
def eVar (i : Nat) : Mi D := fun ρ => match ρ[i]? with
  | some (some d) => .ok d ρ
  | _ => .bad
section
variable {X : Cx} {W : WX} {p p1 p2 p3 : Bool} {G : List Sh} {e a b c : Expr} {pos : Pos}
theorem DE.dc {m : Mi D} (h : DE X W p G e m) : DC X W p G e m := by
  obtain ⟨t, pe, tl⟩ := h
  refine ⟨t, pe, fun F H A σ ρ Q wf en hp => tl F H A σ ρ Q wf en ?_⟩
  cases e : m ρ with
  | ok a ρ' => rw [e] at hp; exact fun b H' F' A' st wf' en' r pp => hp b H' F' A' st wf' en' r.rc pp
  | exc x ρ' => rw [e] at hp; exact hp
  | bad => rw [e] at hp; exact hp
theorem DE.weak {m : Mi D} (h : DE X W p G e m) : DE X W false G e m := by
  obtain ⟨t, pe, tl⟩ := h
  exact ⟨t, pe, tl.weak⟩
theorem de_var (i : Nat) {x : Str} (hG : G[i]? = some .fz) (hN : X.N[i]? = some x) (hv : Vis X.env.scope x) (hd : (x == ("__debug__" : Str)) = false := by decide) (hcd : (x == ("__classdict__" : Str)) = false := by decide) : DE X W true G (.Name x pos) (eVar i) := by
  refine ⟨_, pe_var hN hv hd hcd, fun F H A σ ρ Q wf en hp => ?_⟩
  unfold eVar at hp
  split at hp
  · rename_i d e
    obtain ⟨v, B, e1, o, _⟩ := en.get hG e
    exact ⟨v, e1, hp.fin0 wf en o.1⟩
  · exact hp.elim
def eK (d : D) : Mi D := ret d
theorem de_int {i j} : DE X W true G (.Constant (.int i) j pos) (eK (.int i)) := ⟨_, pe_int, fun F H A σ ρ Q wf en hp => hp.fin0 wf en (.v _)⟩
theorem de_bl {b j} : DE X W true G (.Constant (.bool b) j pos) (eK (.bl b)) := ⟨_, pe_bl, fun F H A σ ρ Q wf en hp => hp.fin0 wf en (.v _)⟩
theorem de_non {j} : DE X W true G (.Constant .none j pos) (eK .non) := ⟨_, pe_non, fun F H A σ ρ Q wf en hp => hp.fin0 wf en (.v _)⟩
theorem de_str {x j} : DE X W true G (.Constant (.str x) j pos) (eK (.str x)) := ⟨_, pe_str, fun F H A σ ρ Q wf en hp => hp.fin0 wf en (.v _)⟩
def GV (K : PySem.W.Frag) (v : V) (d : D) : Prop := ∀ F H, Rp K F H v d
theorem de_glob {x : Str} {v : V} {u : Value} {d : D} (hg : Gl X x) (hm : X.mg x = some u) (r : RelV v u) (hd : GV X.K v d) (hdb : (x == ("__debug__" : Str)) = false := by decide) : DE X W true G (.Name x pos) (eK d) :=
  ⟨_, pe_glob hg hm r hdb, fun F H A σ ρ Q wf en hp => hp.fin0 wf en (hd F H)⟩

/-! ### operators on values -/
def VOp (K : PySem.W.Frag) (r : R2) (f : D → D → Option D) : Prop :=
  ∀ F H x y d1 d2 d (Q : VK), (∀ a, F a → H a ≠ none) → Rp K F H x d1 → Rp K F H y d2 → f d1 d2 = some d → (∀ w H' F', Pst F H F' H' → Rp K F' H' w d → Q w H') → r x y H Q
def eOp (f : D → D → Option D) (ma mb : Mi D) : Mi D := bnd ma fun x => bnd mb fun y => lift (f x y)
theorem Pg.lift {α β : Type} {R : Rel β α} {σ : L2.St} {F : FS} {H : Hp} {A : List Addr} {ρ : Env} {o : Option α} {Q : β → Hp → Prop} (h : Pg X W p R G σ F H A ρ (DM.lift o ρ) Q) : ∃ d, o = some d ∧ Pg X W p R G σ F H A ρ (.ok d ρ) Q := by
  cases o with
  | none => exact (show False from h).elim
  | some d => exact ⟨d, rfl, h⟩
theorem de_op {op : Operator} {r : R2} {f : D → D → Option D} {ma mb : Mi D} (ho : OpR X (binaryOp op) r) (hf : VOp X.K r f) (ha : DE X W p1 G a ma) (hb : DE X W p2 G b mb) : DE X W (p1 && (p2 && true)) G (.BinOp a op b pos) (eOp f ma mb) := by
  obtain ⟨ta, pa, la⟩ := ha
  obtain ⟨tb, pb, lb⟩ := hb
  refine ⟨_, pe_op ho pa pb, fun F H A σ ρ Q wf en hp => ?_⟩
  refine la.use wf en hp fun d1 ρ1 x H1 F1 A1 s1 wf1 en1 r1 _ hp => ?_
  refine lb.use wf1 en1 hp fun d2 ρ2 y H2 F2 A2 s2 wf2 en2 r2 _ hp => ?_
  obtain ⟨d, e, hp⟩ := hp.lift
  exact hf F2 H2 x y d1 d2 d Q wf2.f (r1.mono (s2.fut wf1)) r2 e fun w H' F' s r => hp.fin wf2 en2 s r
def VCmp (K : PySem.W.Frag) (r : R2) (f : D → D → Option Bool) : Prop :=
  ∀ H x y d1 d2 k (Q : VK), Rp K (fun _ => True) H x d1 → Rp K (fun _ => True) H y d2 → f d1 d2 = some k → Q (.bl k) H → r x y H Q
def eCmp (f : D → D → Option Bool) (ma mb : Mi D) : Mi D := bnd ma fun x => bnd mb fun y => lift ((f x y).map D.bl)
def tCp (f : D → D → Option Bool) (ma mb : Mi D) : Mi Bool := bnd ma fun x => bnd mb fun y => lift (f x y)
theorem Rc.later {K : PySem.W.Frag} {F F1 : FS} {H H1 : Hp} {v : V} {d : D} (s : Pst F H F1 H1) (r : Rp K (fun _ => True) H v d) : Rp K (fun _ => True) H1 v d :=
  r.mono ⟨fun _ h => h, fun a o _ e => s.keep a o e⟩
theorem de_cmp {op : CmpOp} {r : R2} {f : D → D → Option Bool} {ma mb : Mi D} (ho : OpR X (compareOp op) r) (hf : VCmp X.K r f) (ha : DE X W p1 G a ma) (hb : DC X W p2 G b mb) (hm : behindInMarks op b = false) : DE X W (p1 && (p2 && true)) G (.Compare a [op] [b] pos) (eCmp f ma mb) := by
  obtain ⟨ta, pa, la⟩ := ha
  obtain ⟨tb, pb, lb⟩ := hb
  refine ⟨_, pe_cmpR ho pa pb hm, fun F H A σ ρ Q wf en hp => ?_⟩
  refine la.use wf en hp fun d1 ρ1 x H1 F1 A1 s1 wf1 en1 r1 _ hp => ?_
  refine lb.use wf1 en1 hp fun d2 ρ2 y H2 F2 A2 s2 wf2 en2 r2 _ hp => ?_
  obtain ⟨d, e, hp⟩ := hp.lift
  cases q : f d1 d2 with
  | none => rw [q] at e; cases e
  | some k =>
    rw [q] at e; cases e
    exact hf H2 x y d1 d2 k Q (r1.mono (s2.fut wf1)).rc r2 q (hp.fin0 wf2 en2 (.v _))
theorem dt_cmp {op : CmpOp} {r : R2} {f : D → D → Option Bool} {ma mb : Mi D} (ho : OpR X (compareOp op) r) (hf : VCmp X.K r f) (ha : DE X W p1 G a ma) (hb : DC X W p2 G b mb) (hm : behindInMarks op b = false) : DT X W (p1 && (p2 && true)) G (.Compare a [op] [b] pos) (tCp f ma mb) := by
  obtain ⟨ta, pa, la⟩ := ha
  obtain ⟨tb, pb, lb⟩ := hb
  refine ⟨_, pt_cmpR ho pa pb hm, fun F H A σ ρ Q wf en hp => ?_⟩
  refine la.use wf en hp fun d1 ρ1 x H1 F1 A1 s1 wf1 en1 r1 _ hp => ?_
  refine lb.use wf1 en1 hp fun d2 ρ2 y H2 F2 A2 s2 wf2 en2 r2 _ hp => ?_
  obtain ⟨k, q, hp⟩ := hp.lift
  exact hf H2 x y d1 d2 k _ (r1.mono (s2.fut wf1)).rc r2 q ⟨_, rfl, hp.fin0 wf2 en2 rfl⟩
def eChain (f g : D → D → Option Bool) (ma mb mc : Mi D) : Mi D := bnd ma fun x => bnd mb fun y => bnd (lift (f x y)) fun k => if k = true then bnd mc fun z => lift ((g y z).map D.bl) else ret (D.bl false)
def tChn (f g : D → D → Option Bool) (ma mb mc : Mi D) : Mi Bool := bnd ma fun x => bnd mb fun y => bnd (lift (f x y)) fun k => if k = true then bnd mc fun z => lift (g y z) else ret false
end
end DM
/-! DmC: data as the library's data; operations on values. -/
namespace DM
open PySem PySem.Spec PyProof.Rows L2

mutual
def D.py : D → PyData
  | .v x => match x with
    | .non => .none
    | .bl b => .bool b
    | .int i => .int i
    | .str s => .str s
    | _ => .dict []
  | .lst xs => .list (pyAll xs)
  | .tup xs => .tuple (pyAll xs)
  | .dct kvs => .dict (pyKv kvs)
  | .dcT kvs => .dict (pyKv kvs)
  | .scr ns => .list (ns.map .int)
  | .ex _ _ => .dict []
def pyAll : List D → List PyData
  | [] => []
  | x :: xs => x.py :: pyAll xs
def pyKv : List (D × D) → List (PyData × PyData)
  | [] => []
  | p :: r => (p.1.py, p.2.py) :: pyKv r
end
mutual
/-- no thing of another kind in it -/
def D.plain : D → Bool
  | .v x => match x with
    | .non | .bl _ | .int _ | .str _ => true
    | _ => false
  | .lst xs => plainAll xs
  | .tup xs => plainAll xs
  | .dct kvs => plainKv kvs
  | .dcT kvs => plainKv kvs
  | .scr _ => true
  | .ex _ _ => false
def plainAll : List D → Bool
  | [] => true
  | x :: xs => x.plain && plainAll xs
def plainKv : List (D × D) → Bool
  | [] => true
  | p :: r => p.1.plain && p.2.plain && plainKv r
end

section
variable {X : Cx} {pins : List (Addr × Obj)} {σ : L2.St} {H : Hp} {F : FS} {s : Shared}
theorem key_is {k : Key} {u : Value} (h : keyIs k u = true) : (∃ i t, k = .inl i ∧ u = .int i t) ∨ ∃ x t, k = .inr x ∧ u = .str x t := keyIs_shape h
end

/-! ### equality -/
def shp (d : D) : Bool := d.plain && SeqAt.shaped d.py
def opEq0 : D → D → Option Bool
  | .v (.int i), .v (.int j) => some (decide (i = j))
  | .v (.str x), .v (.str y) => some (decide (x = y))
  | .v (.bl a), .v (.bl b) => some (decide (a = b))
  | .v .non, .v .non => some true
  | .v .non, .v (.int _) => some false
  | .v .non, .v (.str _) => some false
  | .v (.int _), .v .non => some false
  | .v (.str _), .v .non => some false
  | .v (.str _), .v (.int _) => some false
  | .v (.int _), .v (.str _) => some false
  | a, b => if shp a = true ∧ shp b = true then some (PyData.eqv a.py b.py) else none
def eqE : D → D → Option Bool
  | .tup xs, .tup [] => some xs.isEmpty
  | .lst xs, .lst [] => some xs.isEmpty
  | _, _ => none
def opEq : D → D → Option Bool
  | .v (.int i), .v (.int j) => some (decide (i = j))
  | .v (.str x), .v (.str y) => some (decide (x = y))
  | .v (.bl a), .v (.bl b) => some (decide (a = b))
  | .v .non, .v .non => some true
  | .v .non, .v (.int _) => some false
  | .v .non, .v (.str _) => some false
  | .v (.int _), .v .non => some false
  | .v (.str _), .v .non => some false
  | .v (.str _), .v (.int _) => some false
  | .v (.int _), .v (.str _) => some false
  | a, b => if shp a = true ∧ shp b = true then some (PyData.eqv a.py b.py) else eqE a b
def opNe (a b : D) : Option Bool := (opEq a b).map (!·)

section
variable {K : PySem.W.Frag} {H : Hp} {F : FS}
mutual
theorem Rp.dp : ∀ {v d}, Rp K F H v d → d.plain = true → d.py.canLay0 = true → Dp K H v d.py
  | _, _, .v x, p, c => by
    cases x with
    | non => exact .non
    | bl b => exact .bl b
    | int i => exact .int i
    | str z => exact .str z
    | byt b => cases p
    | flt b => cases p
    | ref b => cases p
    | ty b => cases p
  | _, _, .lst f h r, p, c => .lst (SqL.of h) (Rps.dp r p (by simpa [D.py, PyData.canLay0] using c))
  | _, _, .tup h r, p, c => .tup h.sq (Rps.dp r p (by simpa [D.py, PyData.canLay0] using c))
  | _, _, .dK f h _ r, p, c => by simp [D.py, PyData.canLay0] at c
  | _, _, .dT f h _ r, p, c => by simp [D.py, PyData.canLay0] at c
  | _, _, .scr (ns := ns) h, p, c => .lst h.sq (dp_ints ns)
  | _, _, .ex _ _ _ _ _, p, c => by cases p
theorem Rps.dp : ∀ {vs ds}, Rps K F H vs ds → plainAll ds = true → PyData.canLayAll0 (pyAll ds) = true → DpAll K H vs (pyAll ds)
  | _, _, .nil, _, _ => .nil
  | _, _, .cons h r, p, c => by
    obtain ⟨p1, p2⟩ := Bool.and_eq_true_iff.mp (show (_ && _) = true from p)
    obtain ⟨c1, c2⟩ := Bool.and_eq_true_iff.mp (show (_ && _) = true from c)
    exact .cons (Rp.dp h p1 c1) (Rps.dp r p2 c2)
theorem dp_ints : ∀ ns : List Int, DpAll K H (ns.map V.int) (ns.map PyData.int)
  | [] => .nil
  | n :: ns => .cons (.int n) (dp_ints ns)
end
end
theorem shp_lay {d : D} (h : shp d = true) : d.plain = true ∧ d.py.canLay0 = true ∧ SeqAt.shaped d.py = true := by
  obtain ⟨a, b⟩ := Bool.and_eq_true_iff.mp h
  exact ⟨a, SeqAt.canLay_of_shaped b, b⟩
variable [LamT]
def rEqE (K : PySem.W.Frag) : R2 := fun x y H Q => ∃ a b xs, x = .ref a ∧ y = .ref b ∧ SqT K H a xs ∧ SqT K H b [] ∧ Q (.bl xs.isEmpty) H
def rEqL (K : PySem.W.Frag) : R2 := fun x y H Q => ∃ a b xs, x = .ref a ∧ y = .ref b ∧ SqL K H a xs ∧ SqL K H b [] ∧ Q (.bl xs.isEmpty) H
def rEqX (K : PySem.W.Frag) : R2 := fun x y H Q => (rEq x y H Q ∨ rEqD K x y H Q) ∨ (rEqE K x y H Q ∨ rEqL K x y H Q)
def rNeX (K : PySem.W.Frag) : R2 := fun x y H Q => (rNe x y H Q ∨ rNeD K x y H Q) ∨ (rEqE K x y H (fun v H => ∃ b, v = .bl b ∧ Q (.bl (!b)) H) ∨ rEqL K x y H (fun v H => ∃ b, v = .bl b ∧ Q (.bl (!b)) H))
section
variable {X : Cx}
theorem op_eqE (hu : X.A.units + 64 < cLine) : OpR X (compareOp .Eq) (rEqE X.K) := by
  intro pins s σ H x y v u Q I rx ry hh
  obtain ⟨a, b, xs, rfl, rfl, s1, s2, q⟩ := hh
  cases rx
  cases ry
  obtain ⟨zs, r1, ⟨o1, g1, c1, n1, d1⟩, _⟩ := I.tuple s1
  obtain ⟨ys, r2, ⟨o2, g2, c2, n2, d2⟩, _⟩ := I.tuple s2
  have ey : ys = [] := List.eq_nil_of_length_eq_zero r2.length.symm
  subst ey
  refine SeqAt.eq_tupleAt (e := fun _ => true) ⟨o1, g1, c1, n1, by rw [d1]⟩ ⟨o2, g2, c2, n2, by rw [d2]⟩ (by omega) (fun j _ h2 => absurd h2 (by simp)) ?_
  refine ⟨.bl xs.isEmpty, H, I, ?_, q⟩
  have l := r1.length
  show Value.bool _ = Value.bool _
  congr 1
  cases xs with
  | nil =>
    have ez : zs = [] := List.eq_nil_of_length_eq_zero l.symm
    subst ez; rfl
  | cons x xs =>
    cases zs with
    | nil => simp at l
    | cons z zs => simp
theorem size_nil {xs : List V} {zs : List Value} (l : xs.length = zs.length) (h : xs.isEmpty = true) : zs = [] := List.eq_nil_of_length_eq_zero (by rw [← l]; cases xs with | nil => rfl | cons _ _ => cases h)
theorem size_cons {xs : List V} {zs : List Value} (l : xs.length = zs.length) (h : xs.isEmpty = false) : (zs.toArray.size != ([] : List Value).toArray.size) = true := by
  cases zs with
  | nil =>
    cases xs with
    | nil => cases h
    | cons _ _ => simp at l
  | cons _ _ => simp
theorem op_eqL (hu : X.A.units + 64 < cLine) : OpR X (compareOp .Eq) (rEqL X.K) := by
  intro pins s σ H x y v u Q I rx ry hh
  obtain ⟨a, b, xs, rfl, rfl, s1, s2, q⟩ := hh
  cases rx
  cases ry
  obtain ⟨zs, r1, ⟨o1, n1, g1, c1, _, d1⟩, _⟩ := I.list s1
  obtain ⟨ys, r2, ⟨o2, n2, g2, c2, _, d2⟩, _⟩ := I.list s2
  have ey : ys = [] := List.eq_nil_of_length_eq_zero r2.length.symm
  subst ey
  cases h : xs.isEmpty with
  | true =>
    have ez := size_nil r1.length h
    subst ez
    rw [h] at q
    exact SeqAt.eq_listAt (e := fun _ => true) ⟨o1, g1, c1, n1, d1⟩ ⟨o2, g2, c2, n2, d2⟩ rfl (by omega) (fun j _ h2 => absurd h2 (Nat.not_lt_zero _)) ⟨.bl true, H, I, rfl, q⟩
  | false =>
    rw [h] at q
    exact SeqAt.eq_list_lengthsAt ⟨o1, g1, c1, n1, d1⟩ ⟨o2, g2, c2, n2, d2⟩ (size_cons r1.length h) (by omega) ⟨.bl false, H, I, rfl, q⟩
theorem op_neL (hu : X.A.units + 64 < cLine) : OpR X (compareOp .NotEq) (fun x y H Q => rEqL X.K x y H (fun v H => ∃ b, v = .bl b ∧ Q (.bl (!b)) H)) := by
  intro pins s σ H x y v u Q I rx ry hh
  obtain ⟨a, b, xs, rfl, rfl, s1, s2, k, ek, q⟩ := hh
  cases ek
  cases rx
  cases ry
  obtain ⟨zs, r1, ⟨o1, n1, g1, c1, _, d1⟩, _⟩ := I.list s1
  obtain ⟨ys, r2, ⟨o2, n2, g2, c2, _, d2⟩, _⟩ := I.list s2
  have ey : ys = [] := List.eq_nil_of_length_eq_zero r2.length.symm
  subst ey
  cases h : xs.isEmpty with
  | true =>
    have ez := size_nil r1.length h
    subst ez
    rw [h] at q
    exact SeqAt.RcNeAt.lists (e := fun _ => true) ⟨o1, g1, c1, n1, d1⟩ ⟨o2, g2, c2, n2, d2⟩ rfl (by omega) (fun j _ h2 => absurd h2 (Nat.not_lt_zero _)) _ _ _ _ ⟨.bl false, H, I, rfl, q⟩
  | false =>
    rw [h] at q
    exact SeqAt.RcNeAt.lists_lengths ⟨o1, g1, c1, n1, d1⟩ ⟨o2, g2, c2, n2, d2⟩ (size_cons r1.length h) (by omega) _ _ _ _ ⟨.bl true, H, I, rfl, q⟩
theorem op_neE (hu : X.A.units + 64 < cLine) : OpR X (compareOp .NotEq) (fun x y H Q => rEqE X.K x y H (fun v H => ∃ b, v = .bl b ∧ Q (.bl (!b)) H)) := by
  intro pins s σ H x y v u Q I rx ry hh
  obtain ⟨a, b, xs, rfl, rfl, s1, s2, k, ek, q⟩ := hh
  cases ek
  cases rx
  cases ry
  obtain ⟨zs, r1, ⟨o1, g1, c1, n1, d1⟩, _⟩ := I.tuple s1
  obtain ⟨ys, r2, ⟨o2, g2, c2, n2, d2⟩, _⟩ := I.tuple s2
  have ey : ys = [] := List.eq_nil_of_length_eq_zero r2.length.symm
  subst ey
  refine SeqAt.RcNeAt.tuples (e := fun _ => true) ⟨o1, g1, c1, n1, by rw [d1]⟩ ⟨o2, g2, c2, n2, by rw [d2]⟩ (by omega) (fun j _ h2 => absurd h2 (by simp)) _ _ _ _ ?_
  refine ⟨.bl (!xs.isEmpty), H, I, ?_, q⟩
  have l := r1.length
  show Value.bool _ = Value.bool _
  congr 2
  cases xs with
  | nil =>
    have ez : zs = [] := List.eq_nil_of_length_eq_zero l.symm
    subst ez; rfl
  | cons x xs =>
    cases zs with
    | nil => simp at l
    | cons z zs => simp
theorem op_eqX (hu : X.A.units + 64 < cLine) : OpR X (compareOp .Eq) (rEqX X.K) := (op_eq.or (op_eqD hu)).or ((op_eqE hu).or (op_eqL hu))
theorem op_neX (hu : X.A.units + 64 < cLine) : OpR X (compareOp .NotEq) (rNeX X.K) := (op_ne.or (op_neD hu)).or ((op_neE hu).or (op_neL hu))
theorem eq_cases {x y : D} {k : Bool} {F : FS} {H : Hp} {u v : V} {K : PySem.W.Frag} (ru : Rp K F H u x) (rv : Rp K F H v y) (e : opEq0 x y = some k) :
    (scal u v = true ∧ k = decide (u = v)) ∨ (∃ d e, Dp K H u d ∧ Dp K H v e ∧ SeqAt.shaped d = true ∧ SeqAt.shaped e = true ∧ k = PyData.eqv d e) := by
  unfold opEq0 at e
  split at e
  all_goals first
    | (cases ru; cases rv; cases e; exact .inl ⟨rfl, by simp⟩)
    | (split at e
       · rename_i hs
         cases e
         obtain ⟨p1, c1, s1⟩ := shp_lay hs.1
         obtain ⟨p2, c2, s2⟩ := shp_lay hs.2
         exact .inr ⟨_, _, ru.dp p1 c1, rv.dp p2 c2, s1, s2, rfl⟩
       · cases e)
theorem eq_or {x y : D} {k : Bool} (e : opEq x y = some k) : opEq0 x y = some k ∨ eqE x y = some k := by
  unfold opEq at e
  unfold opEq0
  split at e
  all_goals first
    | exact .inl e
    | (split at e
       · rename_i h0
         first
         | exact .inl (by rw [if_pos h0]; exact e)
         | exact .inl (by simp only [h0]; exact e)
       · exact .inr e)
theorem eqE_cases {x y : D} {k : Bool} {F : FS} {H : Hp} {u v : V} {K : PySem.W.Frag} {Q : VK} (ru : Rp K F H u x) (rv : Rp K F H v y) (e : eqE x y = some k) (q : Q (.bl k) H) : rEqE K u v H Q ∨ rEqL K u v H Q := by
  unfold eqE at e
  split at e
  · cases e
    cases ru with
    | tup t1 r1 =>
      cases rv with
      | tup t2 r2 =>
        cases r2
        refine .inl ⟨_, _, _, rfl, rfl, t1.sq, t2.sq, ?_⟩
        cases r1 <;> exact q
  · cases e
    cases ru with
    | lst f1 h1 r1 =>
      cases rv with
      | lst f2 h2 r2 =>
        cases r2
        refine .inr ⟨_, _, _, rfl, rfl, SqL.of h1, SqL.of h2, ?_⟩
        cases r1 <;> exact q
  · cases e
theorem vc_eq : VCmp X.K (rEqX X.K) opEq := by
  intro H x y d1 d2 k Q rx ry e q
  rcases eq_or e with e | e
  · rcases eq_cases rx ry e with ⟨a, b⟩ | ⟨d, e', h1, h2, h3, h4, h5⟩
    · exact .inl (.inl ⟨a, by rw [← b]; exact q⟩)
    · exact .inl (.inr ⟨d, e', h1, h2, h3, h4, by rw [← h5]; exact q⟩)
  · exact .inr (eqE_cases rx ry e q)
theorem vc_ne : VCmp X.K (rNeX X.K) opNe := by
  intro H x y d1 d2 k Q rx ry e q
  unfold opNe at e
  cases e0 : opEq d1 d2 with
  | none => rw [e0] at e; cases e
  | some k0 =>
    rw [e0] at e
    cases e
    rcases eq_or e0 with e0 | e0
    · rcases eq_cases rx ry e0 with ⟨a, b⟩ | ⟨d, e', h1, h2, h3, h4, h5⟩
      · exact .inl (.inl ⟨a, by rw [← b]; exact q⟩)
      · exact .inl (.inr ⟨d, e', h1, h2, h3, h4, by rw [← h5]; exact q⟩)
    · exact .inr (eqE_cases rx ry e0 ⟨k0, rfl, q⟩)
end

/-! ### order of whole numbers -/
def opI2 (f : Int → Int → Bool) : D → D → Option Bool
  | .v (.int i), .v (.int j) => some (f i j)
  | _, _ => none
abbrev opLt := opI2 fun i j => decide (i < j)
abbrev opLe := opI2 fun i j => decide (i ≤ j)
abbrev opGt := opI2 fun i j => decide (j < i)
abbrev opGe := opI2 fun i j => decide (j ≤ i)
theorem vc_i2 {K : PySem.W.Frag} {f : Int → Int → Bool} : VCmp K (rI0 fun i j => .bl (f i j)) (opI2 f) := by
  intro H x y d1 d2 k Q rx ry e q
  unfold opI2 at e
  split at e
  · cases rx; cases ry; cases e; exact ⟨_, _, rfl, rfl, q⟩
  · cases e

/-! ### is -/
section
variable {X : Cx}
end

/-! ### in -/
def subStr (i j : Str) : Bool := !(Builtin.Str.occurrences j i 0 j.length 1).isEmpty
def inAll (d : D) : List D → Bool
  | [] => false
  | x :: xs => PyData.eqv x.py d.py || inAll d xs
def opIn : D → D → Option Bool
  | .v (.str i), .v (.str j) => some (subStr i j)
  | d, .lst xs => if shp d = true ∧ shp (.lst xs) = true then some (inAll d xs) else none
  | d, .tup xs => if shp d = true ∧ shp (.tup xs) = true then some (inAll d xs) else none
  | _, _ => none
def opNotIn (a b : D) : Option Bool := (opIn a b).map (!·)
theorem inAll_any (d : D) : ∀ xs : List D, inAll d xs = (pyAll xs).any fun y => PyData.eqv y d.py
  | [] => rfl
  | x :: xs => by simp only [inAll, pyAll, List.any_cons, inAll_any d xs]
def rInX (K : PySem.W.Frag) (neg : Bool) : R2 := fun x y H Q =>
  (∃ i j, x = .str i ∧ y = .str j ∧ Q (.bl (if neg then !subStr i j else subStr i j)) H) ∨
  (∃ d ds, Dp K H x d ∧ (Dp K H y (.list ds) ∨ Dp K H y (.tuple ds)) ∧ SeqAt.shaped d = true ∧ PyData.canLayAll0 ds = true ∧ Q (.bl (if neg then !(ds.any fun y => PyData.eqv y d) else ds.any fun y => PyData.eqv y d)) H)
section
variable {X : Cx}
theorem op_inX (hu : X.A.units + 65 < cLine) : OpR X (compareOp .In) (rInX X.K false) := by
  intro pins s σ H x y v u Q I rx ry h
  rcases h with ⟨i, j, rfl, rfl, q⟩ | ⟨d, ds, hd, he, sd, se, q⟩
  · exact op_in_str pins s σ H _ _ v u Q I rx ry ⟨i, j, rfl, rfl, q⟩
  · obtain ⟨bs, r2⟩ := Dp.reads I d x v hd rx
    have hroom : X.A.units + 1 + min (PyData.depthAll ds) d.depth < cLine := by
      have h1 := SeqAt.depth_of_shaped sd
      have h2 := Nat.min_le_right (PyData.depthAll ds) d.depth
      omega
    rcases he with he | he
    · obtain ⟨as, r1⟩ := Dp.reads I (.list ds) y u he ry
      exact SeqAt.in_list_reads r1 r2 se (SeqAt.canLay_of_shaped sd) hroom ⟨.bl _, H, I, rfl, q⟩
    · obtain ⟨as, r1⟩ := Dp.reads I (.tuple ds) y u he ry
      exact SeqAt.in_tuple_reads r1 r2 se (SeqAt.canLay_of_shaped sd) hroom ⟨.bl _, H, I, rfl, q⟩
theorem in_cases {neg : Bool} {F : FS} {H : Hp} {x y : V} {d1 d2 : D} {k : Bool} {Q : VK} (rx : Rp X.K F H x d1) (ry : Rp X.K F H y d2) (e : opIn d1 d2 = some k) (q : Q (.bl (if neg then !k else k)) H) : rInX X.K neg x y H Q := by
  unfold opIn at e
  split at e
  · cases rx; cases ry; cases e; exact .inl ⟨_, _, rfl, rfl, q⟩
  · split at e
    · rename_i hs
      cases e
      obtain ⟨p1, c1, s1⟩ := shp_lay hs.1
      obtain ⟨p2, c2, s2⟩ := shp_lay hs.2
      exact .inr ⟨_, _, rx.dp p1 c1, .inl (ry.dp p2 c2), s1, by simpa [D.py, PyData.canLay0] using c2, by rw [← inAll_any]; exact q⟩
    · cases e
  · split at e
    · rename_i hs
      cases e
      obtain ⟨p1, c1, s1⟩ := shp_lay hs.1
      obtain ⟨p2, c2, s2⟩ := shp_lay hs.2
      exact .inr ⟨_, _, rx.dp p1 c1, .inr (ry.dp p2 c2), s1, by simpa [D.py, PyData.canLay0] using c2, by rw [← inAll_any]; exact q⟩
    · cases e
  · cases e
theorem vc_in : VCmp X.K (rInX X.K false) opIn := fun H x y d1 d2 k Q rx ry e q => in_cases (neg := false) rx ry e q
end

/-! ### new objects -/
section
variable {K : PySem.W.Frag} {F : FS} {H : Hp} {A : List Addr} {p : Addr} {o : HO}
theorem Pst.lay (hp : H p = none) : Pst F H (fun b => F b ∨ b = p) (upd H p o) := by
  refine ⟨fun a h => .inl h, fun b u e => .inl (by rw [upd_ne (ne_of_none e hp)]; exact e), fun t => t.lay hp, fun a h => ?_⟩
  rcases h with h | h
  · exact .inl h
  · subst h
    exact .inr ⟨nt_none hp, by rw [upd_same]; exact fun z => nomatch z⟩
theorem Pst.lay0 (hp : H p = none) (hF : ∀ a, F a → H a ≠ none) : Pst F H F (upd H p o) :=
  ⟨fun a h => h, fun b u e => .inl (by rw [upd_ne (ne_of_none e hp)]; exact e), fun t => t.lay hp, fun a h => .inl h⟩
theorem rp_new_tup {o : Obj} {vs ds} (hp : H p = none) (ho : o.dict = none) (r : Rps K F H vs ds) : Rp K (fun b => F b ∨ b = p) (upd H p (TO o vs)) (.ref p) (.tup ds) :=
  .tup ⟨.inr rfl, o, ho, upd_same⟩ (r.mono (Pst.lay hp).fut)
theorem rp_new_lst {vs ds} (hp : H p = none) (r : Rps K F H vs ds) : Rp K (fun b => F b ∨ b = p) (upd H p (.lst vs)) (.ref p) (.lst ds) :=
  .lst (.inr rfl) upd_same (r.mono (Pst.lay hp).fut)
end

/-! ### + - * // % ** -/
def opAdd : D → D → Option D
  | .v (.int i), .v (.int j) => some (.int (i + j))
  | .v (.str x), .v (.str y) => if x.length + y.length ≤ sizeLine then some (.str (x ++ y)) else none
  | .tup xs, .tup ys => if xs.length + ys.length ≤ sizeLine then some (.tup (xs ++ ys)) else none
  | .lst xs, .lst ys => if xs.length + ys.length ≤ sizeLine then some (.lst (xs ++ ys)) else none
  | .v (.int i), .v (.bl b) => some (.int (i + b2i b))
  | _, _ => none
def opSub : D → D → Option D
  | .v (.int i), .v (.int j) => some (.int (i - j))
  | _, _ => none
def small (i : Int) : Bool := decide (i.natAbs.log2 < 50000000)
def opMul : D → D → Option D
  | .v (.int i), .v (.int j) => if small i && small j then some (.int (i * j)) else none
  | .tup xs, .v (.int k) => if xs ≠ [] ∧ 2 ≤ k ∧ k ≤ 10000 ∧ xs.length ≤ 1000 then some (.tup (List.replicate k.toNat xs).flatten) else none
  | .lst xs, .v (.int k) => if 0 ≤ k ∧ k ≤ 10000 ∧ xs.length ≤ 1000 then some (.lst (List.replicate k.toNat xs).flatten) else none
  | _, _ => none
def opFdiv : D → D → Option D
  | .v (.int i), .v (.int j) => if 0 < j ∧ j.natAbs.log2 < 9000 then some (.int (i / j)) else none
  | _, _ => none
def opMod : D → D → Option D
  | .v (.int i), .v (.int j) => if 0 < j then some (.int (i % j)) else none
  | _, _ => none
def opPow : D → D → Option D
  | .v (.int i), .v (.int j) => if 0 ≤ j ∧ j ≤ 1000 ∧ i.natAbs < 2 ^ 64 then some (.int (i ^ j.toNat)) else none
  | _, _ => none
def CMulB (i j : Int) : Prop := i.natAbs.log2 + j.natAbs.log2 < 130000000
theorem CMulB.ok {i j : Int} (h : CMulB i j) : IntMulOk i j := by
  have b : ∀ x : Int, Builtin.Int.intBits x ≤ x.natAbs.log2 + 1 := fun x => by
    unfold Builtin.Int.intBits
    split <;> omega
  have h1 := b i
  have h2 := b j
  have h3 : i.natAbs.log2 + j.natAbs.log2 < 130000000 := h
  have e : bitsLine = 134217728 := by decide
  unfold IntMulOk
  intro z
  have z2 := (Bool.and_eq_true_iff.mp z).2
  unfold Builtin.Int.intTooBig at z2
  have z3 := of_decide_eq_true z2
  rw [e] at z3
  omega
theorem op_mulB {X : Cx} : OpR X (binaryOp .Mult) (rI CMulB fun i j => .int (i * j)) := opI fun _ _ _ _ _ _ _ hc q => mul_int q hc.ok
def rRepB (K : PySem.W.Frag) : R2 := fun x y H Q => ∃ a k xs, x = .ref a ∧ y = .int k ∧ SqT K H a xs ∧ (xs ≠ [] ∧ 2 ≤ k ∧ k ≤ 10000 ∧ xs.length ≤ 1000) ∧ TQ H (List.replicate k.toNat xs).flatten Q
theorem repB_len {α : Type} (zs : List α) {m : Nat} (hm : m ≤ 10000) (hz : zs.length ≤ 1000) : (List.replicate m zs).flatten.length ≤ sizeLine := by
  have b : m * zs.length ≤ 10000 * 1000 := Nat.mul_le_mul hm hz
  rw [PyProof.Rows.lm_len_rep_flat, sizeLine_eq]; omega
theorem op_repB {X : Cx} : OpR X (binaryOp .Mult) (rRepB X.K) := by
  intro pins s σ H x y v u Q I rx ry hh
  obtain ⟨a, m, xs, rfl, rfl, sq, ⟨ne, m2, mT, len⟩, go⟩ := hh
  cases rx
  obtain ⟨tk, rfl⟩ := ry
  obtain ⟨zs, rel, ⟨⟨oc, od, odt, osl⟩, at_, ec, nn, ed⟩, fits⟩ := I.tuple sq
  obtain rfl : oc = _ := ec
  obtain rfl : odt = _ := ed
  have same : xs.length = zs.length := rel.length
  have full : zs.toArray.isEmpty = false := by
    cases zs with
    | nil => exact absurd (List.eq_nil_of_length_eq_zero same) ne
    | cons _ _ => rfl
  have cnt : zs.toArray.size = xs.length := by rw [same]; exact List.size_toArray
  have prod : ((zs.toArray.size : Nat) : Int) * m ≤ 10000000 := by
    have z : ((xs.length : Nat) : Int) * m ≤ 1000 * m := Int.mul_le_mul_of_nonneg_right (by omega) (by omega)
    rw [cnt]; omega
  have k1 : (decide (m < -(2 ^ 63)) || decide (m ≥ 2 ^ 63)) = false := by
    refine Bool.or_eq_false_iff.mpr ⟨decide_eq_false ?_, decide_eq_false ?_⟩ <;> omega
  have k2 : (zs.toArray.isEmpty || m == 1) = false := by
    have u1 : (m == 1) = false := beq_eq_false_iff_ne.mpr fun z => by omega
    rw [full, u1]; rfl
  have k3 : (decide (m ≤ 0) || zs.toArray.isEmpty) = false := by
    have u1 : ¬ m ≤ 0 := by omega
    rw [full]; simp [u1]
  have k4 : Builtin.Tuple.tupleTooMany (((zs.toArray.size : Nat) : Int) * m) = false := by
    refine decide_eq_false ?_
    rw [sizeLine_eq]; omega
  have end1 : (List.replicate m.toNat zs).flatten.length ≤ sizeLine := repB_len zs (by omega) (by omega)
  have whole := tuple_mulW a zs.toArray nn od osl m tk k1 k2 k3 (by omega) k4 (by rw [size_rep]; simpa using end1)
  have side := int_rmul_tuple m tk a zs.toArray nn od osl
  refine wpAny_binaryOp_repeat_ref (T := "tuple") (U := "int") (by decide) ⟨_, at_, rfl⟩ (fun z => typeIs_int z m tk) noFill_tuple_mul F.fills_int_mul F.slot_int_rmul repeat_tuple F.slot_int_index.lookup (call_meets F.slot_int_rmul (typeIs_int s m tk) F.entry_int_rmul (F.args_int_rmul_2 _ _) side ⟨at_, rfl, ⟨_, at_, rfl⟩, ?_⟩)
  refine call_meets F.slot_tuple_mul ⟨_, at_, rfl⟩ F.entry_tuple_mul (F.args_tuple_mul_2 _ _) whole ⟨at_, ?_⟩
  rw [size_rep]
  exact lay_TO (tk := s.toks) (h' := s.heap) I (fun _ _ e => e) (Nat.le_refl _) (repB_len xs (by omega) len) (by simpa using rel.rep m.toNat) go
def rAddX (K : PySem.W.Frag) : R2 := fun x y H Q => rI0 (fun i j => .int (i + j)) x y H Q ∨ ((∃ i j, x = .str i ∧ y = .str j ∧ i.length + j.length ≤ sizeLine ∧ Q (.str (i ++ j)) H) ∨ (rCatN K x y H Q ∨ (rCat x y H Q ∨ ∃ i k, x = .int i ∧ y = .bl k ∧ Q (.int (i + b2i k)) H)))
def rMulX (K : PySem.W.Frag) : R2 := fun x y H Q => rI CMulB (fun i j => .int (i * j)) x y H Q ∨ (rRepB K x y H Q ∨ rRep x y H Q)
section
variable {X : Cx}
theorem op_addX : OpR X (binaryOp .Add) (rAddX X.K) := op_add.or (op_add_str.or (op_catN.or (op_cat.or op_add_ib)))
theorem op_mulX : OpR X (binaryOp .Mult) (rMulX X.K) := op_mulB.or (op_repB.or op_rep)
theorem vop_add : VOp X.K (rAddX X.K) opAdd := by
  intro F H x y d1 d2 d Q w rx ry e k
  unfold opAdd at e
  split at e
  · cases rx; cases ry; cases e; exact .inl ⟨_, _, rfl, rfl, k _ H F Pst.refl (.v _)⟩
  · cases rx; cases ry
    split at e
    · cases e; exact .inr (.inl ⟨_, _, rfl, rfl, by assumption, k _ H F Pst.refl (.v _)⟩)
    · cases e
  · split at e
    · rename_i xs ys hz
      cases e
      cases rx with
      | tup h1 r1 =>
        cases ry with
        | tup h2 r2 =>
          refine .inr (.inr (.inl ⟨_, _, _, _, rfl, rfl, h1.sq, h2.sq, by rw [r1.length, r2.length]; exact hz, fun e0 => ?_, fun n0 e0 => ?_, fun n0 n1 p o hp ho => ?_⟩))
          · subst e0; cases r1; exact k _ H F Pst.refl (.tup h2 r2)
          · subst e0; cases r2; rw [List.append_nil] at k; exact k _ H F Pst.refl (.tup h1 r1)
          · exact k _ _ _ (Pst.lay hp) (rp_new_tup hp ho (r1.app r2))
    · cases e
  · split at e
    · rename_i xs ys hz
      cases e
      cases rx with
      | lst f1 h1 r1 =>
        cases ry with
        | lst f2 h2 r2 =>
          exact .inr (.inr (.inr (.inl ⟨_, _, _, _, rfl, rfl, h1, h2, by rw [r1.length, r2.length]; exact hz, fun p hp => k _ _ _ (Pst.lay hp) (rp_new_lst hp (r1.app r2))⟩)))
    · cases e
  · cases rx; cases ry; cases e; exact .inr (.inr (.inr (.inr ⟨_, _, rfl, rfl, k _ H F Pst.refl (.v _)⟩)))
  · cases e
theorem vop_sub : VOp X.K (rI0 fun i j => .int (i - j)) opSub := by
  intro F H x y d1 d2 d Q w rx ry e k
  unfold opSub at e
  split at e
  · cases rx; cases ry; cases e; exact ⟨_, _, rfl, rfl, k _ H F Pst.refl (.v _)⟩
  · cases e
theorem rps_rep {K : PySem.W.Frag} {F : FS} {H : Hp} {vs : List V} {ds : List D} (r : Rps K F H vs ds) : ∀ n : Nat, Rps K F H (List.replicate n vs).flatten (List.replicate n ds).flatten
  | 0 => .nil
  | n + 1 => by
    rw [List.replicate_succ, List.replicate_succ, List.flatten_cons, List.flatten_cons]
    exact r.app (rps_rep r n)
theorem vop_mul : VOp X.K (rMulX X.K) opMul := by
  intro F H x y d1 d2 d Q w rx ry e k
  unfold opMul at e
  split at e
  · cases rx; cases ry
    split at e
    · rename_i hs
      cases e
      obtain ⟨h1, h2⟩ := Bool.and_eq_true_iff.mp hs
      have h1 := of_decide_eq_true h1
      have h2 := of_decide_eq_true h2
      exact .inl ⟨_, _, rfl, rfl, by unfold CMulB; omega, k _ H F Pst.refl (.v _)⟩
    · cases e
  · split at e
    · rename_i xs kk hz
      cases e
      cases ry
      cases rx with
      | tup h1 r1 =>
        obtain ⟨n0, z1, z2, z3⟩ := hz
        have n1 : ∀ q : List V, q.length = xs.length → q ≠ [] := fun q e z => by subst z; exact n0 (List.eq_nil_of_length_eq_zero e.symm)
        exact .inr (.inl ⟨_, _, _, rfl, rfl, h1.sq, ⟨n1 _ r1.length, z1, z2, by rw [r1.length]; exact z3⟩, fun p o hp ho => k _ _ _ (Pst.lay hp) (rp_new_tup hp ho (rps_rep r1 _))⟩)
    · cases e
  · split at e
    · rename_i xs kk hz
      cases e
      cases ry
      cases rx with
      | lst f1 h1 r1 =>
        obtain ⟨z1, z2, z3⟩ := hz
        have hm : xs.length * kk.toNat ≤ 1000 * 10000 := Nat.mul_le_mul z3 (by omega)
        exact .inr (.inr ⟨_, _, _, rfl, rfl, h1, by omega, by omega, by rw [r1.length, sizeLine_eq]; omega, fun p hp => k _ _ _ (Pst.lay hp) (rp_new_lst hp (rps_rep r1 _))⟩)
    · cases e
  · cases e
theorem vop_fdiv : VOp X.K (rI CDivW fun i j => .int (i / j)) opFdiv := by
  intro F H x y d1 d2 d Q w rx ry e k
  unfold opFdiv at e
  split at e
  · cases rx; cases ry
    split at e
    · rename_i hs; cases e; exact ⟨_, _, rfl, rfl, hs, k _ H F Pst.refl (.v _)⟩
    · cases e
  · cases e
theorem vop_mod : VOp X.K (rI (fun _ j => 0 < j) fun i j => .int (i % j)) opMod := by
  intro F H x y d1 d2 d Q w rx ry e k
  unfold opMod at e
  split at e
  · cases rx; cases ry
    split at e
    · rename_i hs; cases e; exact ⟨_, _, rfl, rfl, hs, k _ H F Pst.refl (.v _)⟩
    · cases e
  · cases e
theorem vop_pow : VOp X.K (rI CPow fun i j => .int (i ^ j.toNat)) opPow := by
  intro F H x y d1 d2 d Q w rx ry e k
  unfold opPow at e
  split at e
  · cases rx; cases ry
    split at e
    · rename_i hs; cases e; exact ⟨_, _, rfl, rfl, ⟨hs.1, by omega, hs.2.2⟩, k _ H F Pst.refl (.v _)⟩
    · cases e
  · cases e
end
end DM
/-! DmD: things that are read (owned or not), new owned things, arguments, displays, subscripts, slices, and or not, if. -/
namespace DM
open PySem PySem.Spec PyProof.Rows L2
variable [LamT]

def Rr (K : PySem.W.Frag) : Rel V D := fun F H v d => Rp K F H v d ∨
  (∃ a vs ds, v = .ref a ∧ d = .lst ds ∧ H a = some (.lst vs) ∧ Rps K F H vs ds) ∨
  (∃ a kvs ds, v = .ref a ∧ d = .dct ds ∧ H a = some (.dK kvs) ∧ RpK K F H kvs ds) ∨
  (∃ a kvs ds, v = .ref a ∧ d = .dcT ds ∧ H a = some (.dT kvs) ∧ RpT K F H kvs ds)
section
variable {K : PySem.W.Frag} {F F' : FS} {H H' : Hp}
theorem futT : Fut F H (fun _ => True) H := ⟨fun _ _ => trivial, fun _ _ _ h => .inl h⟩
theorem Rr.rc {v d} (h : Rr K F H v d) : Rp K (fun _ => True) H v d := by
  rcases h with h | ⟨a, vs, ds, rfl, rfl, h, r⟩ | ⟨a, vs, ds, rfl, rfl, h, r⟩ | ⟨a, vs, ds, rfl, rfl, h, r⟩
  · exact h.rc
  · exact .lst trivial h (r.mono futT)
  · exact .dK trivial (.inl h) (fun ⟨_, z⟩ => absurd trivial z) (r.mono futT)
  · exact .dT trivial (.inl h) (fun ⟨_, z⟩ => absurd trivial z) (r.mono futT)
theorem Rr.later {v d} (s : Pst F H F' H') (h : Rr K F H v d) : Rr K F' H' v d := by
  rcases h with h | ⟨a, vs, ds, rfl, rfl, h, r⟩ | ⟨a, vs, ds, rfl, rfl, h, r⟩ | ⟨a, vs, ds, rfl, rfl, h, r⟩
  · exact .inl (h.mono s.fut)
  · exact .inr (.inl ⟨a, vs, ds, rfl, rfl, (s.keep _ _ h).eq nt_lst, r.mono s.fut⟩)
  · exact .inr (.inr (.inl ⟨a, vs, ds, rfl, rfl, (s.keep _ _ h).eq nt_dK, r.mono s.fut⟩))
  · exact .inr (.inr (.inr ⟨a, vs, ds, rfl, rfl, (s.keep _ _ h).eq nt_dT, r.mono s.fut⟩))
theorem all3_fz : ∀ {vs ds A}, All3 (Ow K F H .fz) vs ds A → Rps K F H vs ds ∧ A = []
  | [], [], _, h => ⟨.nil, h⟩
  | _ :: _, _ :: _, _, ⟨A1, A2, ⟨h1, e1⟩, h2, e⟩ => by
    obtain ⟨r, e2⟩ := all3_fz h2
    exact ⟨.cons h1 r, by rw [e, e1, e2]; rfl⟩
  | [], _ :: _, _, h => h.elim
  | _ :: _, [], _, h => h.elim
theorem all3_of : ∀ {vs ds}, Rps K F H vs ds → All3 (Ow K F H .fz) vs ds []
  | _, _, .nil => rfl
  | _, _, .cons h r => ⟨[], [], ⟨h, rfl⟩, all3_of r, rfl⟩
theorem allK_fz : ∀ {vs ds A}, AllK (Ow K F H .fz) vs ds A → RpK K F H vs ds ∧ A = []
  | [], [], _, h => ⟨.nil, h⟩
  | (_, _) :: _, (_, _) :: _, _, ⟨A1, A2, k, ⟨h1, e1⟩, h2, e⟩ => by
    obtain ⟨r, e2⟩ := allK_fz h2
    exact ⟨.cons k h1 r, by rw [e, e1, e2]; rfl⟩
  | [], _ :: _, _, h => h.elim
  | _ :: _, [], _, h => h.elim
theorem allK_of : ∀ {vs ds}, RpK K F H vs ds → AllK (Ow K F H .fz) vs ds []
  | _, _, .nil => rfl
  | _, _, .cons k h r => ⟨[], [], k, ⟨h, rfl⟩, allK_of r, rfl⟩
theorem allT_fz : ∀ {vs ds A}, AllT (Ow K F H .fz) vs ds A → RpT K F H vs ds ∧ A = []
  | [], [], _, h => ⟨.nil, h⟩
  | (_, _) :: _, (_, _) :: _, _, ⟨A1, A2, dk, k, kd, ⟨h1, e1⟩, h2, e⟩ => by
    obtain ⟨r, e2⟩ := allT_fz h2
    have kd' : _ = D.tup dk := kd
    subst kd'
    exact ⟨.cons k h1 r, by rw [e, e1, e2]; rfl⟩
  | [], _ :: _, _, h => h.elim
  | _ :: _, [], _, h => h.elim
/-- shapes that may be read -/
inductive Rdb : Sh → Prop
  | fz : Rdb .fz
  | lst : Rdb (.lst .fz)
  | dct : Rdb (.dct .fz)
  | at_ {v s} : Rdb s → Rdb (.at_ v s)
theorem Ow.rr {s v d B} (h : Ow K F H s v d B) (r : Rdb s) : Rr K F H v d := by
  induction r with
  | fz => exact .inl h.1
  | lst =>
    obtain ⟨a, vs, ds, B, rfl, rfl, h, q, _⟩ := h
    exact .inr (.inl ⟨a, vs, ds, rfl, rfl, h, (all3_fz q).1⟩)
  | dct =>
    obtain ⟨a, ds, B, rfl, _, h⟩ := h
    rcases h with ⟨kvs, rfl, h, q⟩ | ⟨kvs, rfl, h, q⟩
    · exact .inr (.inr (.inl ⟨a, kvs, ds, rfl, rfl, h, (allK_fz q).1⟩))
    · exact .inr (.inr (.inr ⟨a, kvs, ds, rfl, rfl, h, (allT_fz q).1⟩))
  | at_ r ih => exact ih h.2
def Sh.nf : Sh → Bool
  | .fz => true
  | .any => false
  | .lst s => s.nf
  | .dct _ => false
  | .at_ _ s => s.nf
theorem all3_rps {R : V → D → List Addr → Prop} {F2 : FS} : ∀ {vs ds A}, (∀ v d B, (∀ b ∈ B, b ∈ A) → R v d B → Rp K F2 H v d) → All3 R vs ds A → Rps K F2 H vs ds
  | [], [], _, _, _ => .nil
  | _ :: _, _ :: _, _, m, ⟨A1, A2, h1, h2, e⟩ => .cons (m _ _ _ (fun b hb => by rw [e]; exact List.mem_append_left _ hb) h1) (all3_rps (fun v d B hB => m v d B fun b hb => by rw [e]; exact List.mem_append_right _ (hB b hb)) h2)
  | [], _ :: _, _, _, h => h.elim
  | _ :: _, [], _, _, h => h.elim
theorem Ow.freeze {F2 : FS} : ∀ {s v d B}, Ow K F H s v d B → s.nf = true → (∀ a, F a → F2 a) → (∀ b ∈ B, F2 b) → Rp K F2 H v d
  | .fz, _, _, _, h, _, f, _ => h.1.mono ⟨f, fun _ _ _ h => .inl h⟩
  | .any, _, _, _, _, n, _, _ => nomatch n
  | .lst s, _, _, _, ⟨a, vs, ds, B, ev, ed, h, q, e⟩, n, f, g => by
    subst ev; subst ed
    exact .lst (g a (by rw [e]; exact List.mem_cons_self)) h (all3_rps (fun v d C hC r => Ow.freeze (s := s) r n f fun b hb => g b (by rw [e]; exact List.mem_cons_of_mem _ (hC b hb))) q)
  | .dct s, _, _, _, _, n, _, _ => nomatch n
  | .at_ w s, _, _, _, h, n, f, g => Ow.freeze (s := s) h.2 n f g
end

def DR (X : Cx) (W : WX) (p : Bool) (G : List Sh) (e : Expr) (m : Mi D) : Prop := ∃ t, PE X e t ∧ Tl X W p (Rr X.K) G t m
def PgO (X : Cx) (W : WX) (p : Bool) (s : Sh) (G : List Sh) (σ : L2.St) (F : FS) (H : Hp) (A : List Addr) (ρ : Env) (o : Out D) (Q : VK) : Prop :=
  match o with
  | .ok d ρ' => ∀ v H' F' A' B, Stp F H A F' H' (B ++ A') → Wf F' H' (B ++ A') → EnvR X.K F' H' G σ ρ' A' → Ow X.K F' H' s v d B → (p = true → Pst F H F' H' ∧ A' = A ∧ ρ' = ρ ∧ ∀ b ∈ B, H b = none) → Q v H'
  | .exc x ρ' => ∀ cls dd H' F' A', Stp F H A F' H' A' → Wf F' H' A' → EnvR X.K F' H' G σ ρ' A' → XR X.K X.mg F' H' x cls dd → (p = true → Pst F H F' H' ∧ A' = A ∧ ρ' = ρ) → W cls dd σ H'
  | .bad => False
def TlO (X : Cx) (W : WX) (p : Bool) (s : Sh) (G : List Sh) (t : TE) (m : Mi D) : Prop :=
  ∀ F H A σ ρ Q, Wf F H A → EnvR X.K F H G σ ρ A → PgO X W p s G σ F H A ρ (m ρ) Q → t σ H Q
def DO (X : Cx) (W : WX) (p : Bool) (s : Sh) (G : List Sh) (e : Expr) (m : Mi D) : Prop := ∃ t, PE X e t ∧ TlO X W p s G t m

section
variable {X : Cx} {W : WX} {p p1 p2 p3 : Bool} {G : List Sh} {e a b c : Expr} {pos : Pos} {α β γ δ : Type} {R : Rel β α} {R2 : Rel δ γ} {F F1 : FS} {H H1 : Hp} {A A1 : List Addr} {σ : L2.St} {ρ ρ1 : Env} {s : Sh}
theorem DE.dr {m : Mi D} (h : DE X W p G e m) : DR X W p G e m := by
  obtain ⟨t, pe, tl⟩ := h
  refine ⟨t, pe, fun F H A σ ρ Q wf en hp => tl F H A σ ρ Q wf en ?_⟩
  cases e : m ρ with
  | ok a ρ' => rw [e] at hp; exact fun b H' F' A' st wf' en' r pp => hp b H' F' A' st wf' en' (.inl r) pp
  | exc x ρ' => rw [e] at hp; exact hp
  | bad => rw [e] at hp; exact hp
theorem DR.dc {m : Mi D} (h : DR X W p G e m) : DC X W p G e m := by
  obtain ⟨t, pe, tl⟩ := h
  refine ⟨t, pe, fun F H A σ ρ Q wf en hp => tl F H A σ ρ Q wf en ?_⟩
  cases e : m ρ with
  | ok a ρ' => rw [e] at hp; exact fun b H' F' A' st wf' en' r pp => hp b H' F' A' st wf' en' r.rc pp
  | exc x ρ' => rw [e] at hp; exact hp
  | bad => rw [e] at hp; exact hp
theorem dr_var (i : Nat) {x : Str} {s : Sh} (hG : G[i]? = some s) (hs : Rdb s) (hN : X.N[i]? = some x) (hv : Vis X.env.scope x) (hd : (x == ("__debug__" : Str)) = false := by decide) (hcd : (x == ("__classdict__" : Str)) = false := by decide) : DR X W true G (.Name x pos) (eVar i) := by
  refine ⟨_, pe_var hN hv hd hcd, fun F H A σ ρ Q wf en hp => ?_⟩
  unfold eVar at hp
  split at hp
  · rename_i d e
    obtain ⟨v, B, e1, o, _⟩ := en.get hG e
    exact ⟨v, e1, hp.fin0 wf en (o.rr hs)⟩
  · exact hp.elim
theorem wf_cons {B : List Addr} (w : Wf F H (B ++ A)) : Wf F H A :=
  ⟨w.f, fun a ha => w.a a (List.mem_append_right _ ha), (List.nodup_append.mp w.nd).2.1, fun a ha => w.ap a (List.mem_append_right _ ha)⟩
theorem stp_cons {B : List Addr} {F' H' A'} (x : Stp F H A F' H' (B ++ A')) : Stp F H A F' H' A' := ⟨x.f, x.keep, fun b hb => x.own b (List.mem_append_right _ hb), x.fn, x.tb⟩
theorem stay_f {F2 : FS} (f : ∀ a, F a → F2 a) : Stay F H A F2 H := ⟨⟨f, fun _ _ _ h => .inl h⟩, id, fun _ _ _ h _ => h⟩
theorem DO.de {m : Mi D} (h : DO X W p s G e m) (n : s.nf = true) : DE X W p G e m := by
  obtain ⟨t, pe, tl⟩ := h
  refine ⟨t, pe, fun F H A σ ρ Q wf en hp => tl F H A σ ρ Q wf en ?_⟩
  cases e : m ρ with
  | ok d ρ' =>
    rw [e] at hp
    intro v H' F' A' B st wf' en' o pp
    refine hp v H' (fun a => F' a ∨ a ∈ B) A' ⟨fun a h => .inl (st.f a h), st.keep, (stp_cons st).own, fun b hb => hb.elim (st.fn b) fun z => .inr ((st.own b (List.mem_append_left _ z)).imp id nt_none), st.tb⟩ ⟨fun a h => ?_, (wf_cons wf').a, (wf_cons wf').nd, fun a ha h => ?_⟩ (en'.mono (stay_f fun a h => .inl h)) (o.freeze n (fun a h => .inl h) fun b hb => .inr hb) fun q => ?_
    · rcases h with h | h
      · exact wf'.f a h
      · exact (wf'.a a (List.mem_append_left _ h)).1
    · rcases h with h | h
      · exact wf'.ap a (List.mem_append_right _ ha) h
      · exact (List.nodup_append.mp wf'.nd).2.2 a h a ha rfl
    · obtain ⟨x, y, z, new⟩ := pp q
      refine ⟨⟨fun a h => .inl (x.f a h), x.keep, x.tb, fun a h => ?_⟩, y, z⟩
      rcases h with h | h
      · exact x.new a h
      · exact .inr ⟨nt_none (new a h), (wf'.a a (List.mem_append_left _ h)).1⟩
  | exc x ρ' => rw [e] at hp; exact hp
  | bad => rw [e] at hp; exact hp
/-! dicts that stay are locked -/
omit [LamT] in
theorem ne_f {F : FS} {a D : Addr} (f : F a) (n : ¬ F D) : a ≠ D := fun z => by subst z; exact n f
omit [LamT] in
theorem ne_a {A : List Addr} {a D : Addr} (f : a ∈ A) (n : D ∉ A) : a ≠ D := fun z => by subst z; exact n f
inductive Dc : HO → Prop
  | k (kvs : List (Key × V)) : Dc (.dK kvs)
  | t (kvs : List (List Key × V)) : Dc (.dT kvs)
theorem Dc.mut {u : HO} (h : Dc u) : Mut (some u) := by cases h <;> exact True.intro
theorem LTs.updC {a : Addr} {u v : HO} (h : LTs H) (c : Dc u) (ha : H a = some u) : LTs (L2.upd H a v) := by
  cases c with
  | k kvs => exact h.upd ha nt_dK fun q z => by unfold LamX.CodeO at z; cases z
  | t kvs => exact h.upd ha nt_dT fun q z => by unfold LamX.CodeO at z; cases z
def tLock (t : TE) : TE := fun σ H Q => t σ H fun v H1 => ∃ a u, v = .ref a ∧ H1 a = some u ∧ Dc u ∧ ∀ o, Q v (upd H1 a (.frz o u))
theorem pe_lock {t : TE} (h : PE X e t) : PE X e (tLock t) := ⟨fun pins s σ H Q I q => thn (h.run pins s σ H _ I q) fun v s' ⟨w, H1, I1, rw', a, u, e, hu, hd, q⟩ => by
  obtain ⟨od, I2⟩ := I1.lock hu hd.mut
  exact ⟨w, _, I2, rw', q od⟩⟩
theorem Ow.dc {v : V} {d : D} {B : List Addr} (o : Ow X.K F H (.dct .fz) v d B) : ∃ a u, v = .ref a ∧ H a = some u ∧ Dc u ∧ B = [a] ∧ ∀ F2 H2, Fut F H F2 H2 → F2 a → (∃ q, H2 a = some (.frz q u)) → Rp X.K F2 H2 v d := by
  obtain ⟨a, ds, B', rfl, e, h⟩ := o
  rcases h with ⟨kvs, rfl, h, r⟩ | ⟨kvs, rfl, h, r⟩
  · obtain ⟨r, e2⟩ := allK_fz r
    exact ⟨a, _, rfl, h, .k kvs, by rw [e, e2], fun F2 H2 m f ⟨q, z⟩ => .dK f (.inr ⟨q, z⟩) (fun _ => ⟨q, z⟩) (r.mono m)⟩
  · obtain ⟨r, e2⟩ := allT_fz r
    exact ⟨a, _, rfl, h, .t kvs, by rw [e, e2], fun F2 H2 m f ⟨q, z⟩ => .dT f (.inr ⟨q, z⟩) (fun _ => ⟨q, z⟩) (r.mono m)⟩
theorem DO.deD {m : Mi D} (h : DO X W p (.dct .fz) G e m) : DE X W p G e m := by
  obtain ⟨t, pe, tl⟩ := h
  refine ⟨tLock t, pe_lock pe, fun F H A σ ρ Q wf en hp => tl F H A σ ρ _ wf en ?_⟩
  cases e : m ρ with
  | ok d ρ' =>
    rw [e] at hp
    intro v H' F' A' B st wf' en' o pp
    obtain ⟨a, u, rfl, ha, hc, rfl, mk⟩ := o.dc
    refine ⟨a, u, rfl, ha, hc, fun q => ?_⟩
    have nF : ¬ F' a := wf'.ap a (List.mem_append_left _ List.mem_cons_self)
    have nA : a ∉ A' := fun z => (List.nodup_append.mp wf'.nd).2.2 a List.mem_cons_self a z rfl
    have fut : Fut F' H' (fun b => F' b ∨ b = a) (upd H' a (.frz q u)) := ⟨fun b h => .inl h, fun b o f e => .inl (by rw [upd_ne (ne_f f nF)]; exact e)⟩
    have old : ∀ b o, H b = some o → b ∉ A → b ≠ a := fun b o e n z => by
      rcases st.own a (List.mem_append_left _ List.mem_cons_self) with y | y
      · exact n (z ▸ y)
      · rw [z, y] at e; cases e
    refine hp _ _ (fun b => F' b ∨ b = a) A' ⟨fun b h => .inl (st.f b h), fun b o e n => by rw [upd_ne (old b o e n)]; exact st.keep b o e n, (stp_cons st).own, fun b hb => hb.elim (st.fn b) fun z => .inr ((st.own b (by rw [z]; exact List.mem_append_left _ List.mem_cons_self)).imp id nt_none), fun t => (st.tb t).updC hc ha⟩ ⟨fun b hb => ?_, fun b hb => ?_, (wf_cons wf').nd, fun b hb z => ?_⟩ (en'.mono ⟨fut, fun t => t.updC hc ha, fun b hb o e _ => by rw [upd_ne (ne_a hb nA)]; exact e⟩) (mk _ _ fut (.inr rfl) ⟨q, upd_same⟩) fun z => ?_
    · by_cases z : b = a
      · rw [z, upd_same]; exact fun y => nomatch y
      · rw [upd_ne z]; exact wf'.f b (hb.resolve_right z)
    · rw [upd_ne (ne_a hb nA)]; exact (wf_cons wf').a b hb
    · rcases z with z | z
      · exact (wf_cons wf').ap b hb z
      · exact nA (z ▸ hb)
    · obtain ⟨x, y, z, new⟩ := pp z
      have na := new a List.mem_cons_self
      refine ⟨⟨fun b h => .inl (x.f b h), fun b o e => ?_, fun t => (x.tb t).updC hc ha, fun b h => ?_⟩, y, z⟩
      · rw [upd_ne (fun z => by rw [z, na] at e; cases e)]; exact x.keep b o e
      · by_cases z : b = a
        · exact .inr ⟨nt_none (z ▸ na), by rw [z, upd_same]; exact fun y => nomatch y⟩
        · rw [upd_ne z]; exact x.new b (h.resolve_right z)
  | exc x ρ' => rw [e] at hp; exact hp
  | bad => rw [e] at hp; exact hp
theorem PgO.after {o : Out D} {Q : VK} (st : Stp F H A F1 H1 A1) (e : p1 = true → Pst F H F1 H1 ∧ A1 = A ∧ ρ1 = ρ) (h : PgO X W (p1 && p2) s G σ F H A ρ o Q) : PgO X W p2 s G σ F1 H1 A1 ρ1 o Q := by
  have j : ∀ {F' H' A' ρ'}, (p2 = true → Pst F1 H1 F' H' ∧ A' = A1 ∧ ρ' = ρ1) → ((p1 && p2) = true → Pst F H F' H' ∧ A' = A ∧ ρ' = ρ) := fun z q => by
    obtain ⟨q1, q2⟩ := Bool.and_eq_true_iff.mp q
    obtain ⟨a, b, c⟩ := e q1
    obtain ⟨a', b', c'⟩ := z q2
    exact ⟨a.trans a', b'.trans b, c'.trans c⟩
  cases o with
  | ok a ρ' =>
    refine fun v H' F' A' B st' wf en r pp => h v H' F' A' B (st.trans st') wf en r fun q => ?_
    obtain ⟨q1, q2⟩ := Bool.and_eq_true_iff.mp q
    obtain ⟨a1, b1, c1⟩ := e q1
    obtain ⟨a2, b2, c2, n2⟩ := pp q2
    refine ⟨a1.trans a2, b2.trans b1, c2.trans c1, fun b hb => ?_⟩
    cases z : H b with
    | none => rfl
    | some u => exact absurd (n2 b hb) (a1.keep b u z).ne
  | exc x ρ' => exact fun cls dd H' F' A' st' wf en r pp => h cls dd H' F' A' (st.trans st') wf en r (j pp)
  | bad => exact h
end
end DM
/-! DmE: arguments, displays, subscripts, slices, and or not, if, calls of built-ins. -/
namespace DM
open PySem PySem.Spec PyProof.Rows L2
variable [LamT]

section
variable {X : Cx} {W : WX} {p p1 p2 p3 : Bool} {G : List Sh} {e a b c : Expr} {es : List Expr} {pos : Pos} {α β γ δ : Type} {R : Rel β α} {S : Rel δ γ} {F F1 : FS} {H H1 : Hp} {A A1 : List Addr} {σ : L2.St} {ρ ρ1 : Env} {s : Sh}
theorem Tl.useO {t : L2.St → Hp → (β → Hp → Prop) → Prop} {m : Mi α} {k : α → Mi D} {Q : VK} {Q1 : β → Hp → Prop} (h1 : Tl X W p1 R G t m) (wf : Wf F H A) (en : EnvR X.K F H G σ ρ A)
    (h : PgO X W (p1 && p2) s G σ F H A ρ (bnd m k ρ) Q)
    (hk : ∀ a ρ1 b H1 F1 A1, Stp F H A F1 H1 A1 → Wf F1 H1 A1 → EnvR X.K F1 H1 G σ ρ1 A1 → R F1 H1 b a → (p1 = true → Pst F H F1 H1) → PgO X W p2 s G σ F1 H1 A1 ρ1 (k a ρ1) Q → Q1 b H1) : t σ H Q1 := by
  refine h1 F H A σ ρ Q1 wf en ?_
  unfold bnd at h
  cases e : m ρ with
  | ok a ρ' =>
    rw [e] at h
    exact fun b H' F' A' st wf' en' r pp => hk a ρ' b H' F' A' st wf' en' r (fun q => (pp q).1) (PgO.after st pp h)
  | exc x ρ' =>
    rw [e] at h
    exact fun cls dd H' F' A' st wf' en' r pp => h cls dd H' F' A' st wf' en' r fun q => pp (Bool.and_eq_true_iff.mp q).1
  | bad => rw [e] at h; exact h
theorem PgO.lift {o : Option D} {Q : VK} (h : PgO X W p s G σ F H A ρ (DM.lift o ρ) Q) : ∃ d, o = some d ∧ PgO X W p s G σ F H A ρ (.ok d ρ) Q := by
  cases o with
  | none => exact (show False from h).elim
  | some d => exact ⟨d, rfl, h⟩
theorem PgO.new {d : D} {Q : VK} {q : Addr} {o : HO} (wf : Wf F H A) (en : EnvR X.K F H G σ ρ A) (h : PgO X W p s G σ F H A ρ (.ok d ρ) Q) (hq : H q = none) (ow : Ow X.K F (upd H q o) s (.ref q) d [q]) : Q (.ref q) (upd H q o) := by
  have ps : Pst F H F (upd H q o) := Pst.lay0 hq wf.f
  refine h _ _ F A [q] ⟨fun _ h => h, fun b u e _ => ps.keep b u e, fun b hb => ?_, fun b hb => .inl hb, ps.tb⟩ ?_ (en.mono (ps.stay wf.a)) ow fun _ => ⟨ps, rfl, rfl, fun b hb => ?_⟩
  · rcases List.mem_cons.mp hb with z | z
    · subst z; exact .inr hq
    · exact .inl z
  · have w' := ps.wf wf
    refine ⟨w'.f, fun a ha => ?_, List.nodup_cons.mpr ⟨fun z => (wf.a q z).1 hq, wf.nd⟩, fun a ha => ?_⟩
    · rcases List.mem_cons.mp ha with z | z
      · subst z; exact ow.nt _ List.mem_cons_self
      · exact w'.a a z
    · rcases List.mem_cons.mp ha with z | z
      · subst z; exact fun f => wf.f _ f hq
      · exact wf.ap a z
  · rw [List.mem_singleton.mp hb]; exact hq
theorem Pg.mono_p {q : Bool} {o : Out α} {Q : β → Hp → Prop} (h : Pg X W q R G σ F H A ρ o Q) (hp : q = true → p = true) : Pg X W p R G σ F H A ρ o Q := by
  cases o with
  | ok a ρ' => exact fun b H' F' A' st wf en r pp => h b H' F' A' st wf en r fun z => pp (hp z)
  | exc x ρ' => exact fun cls dd H' F' A' st wf en r pp => h cls dd H' F' A' st wf en r fun z => pp (hp z)
  | bad => exact h

/-! ### arguments -/
def aNil : Mi (List D) := ret []
def aCons (m : Mi D) (ms : Mi (List D)) : Mi (List D) := bnd m fun x => bnd ms fun xs => ret (x :: xs)
theorem da_nil : DA X W true G [] aNil := ⟨_, pa_nil, fun F H A σ ρ Q wf en hp => hp.fin0 wf en ⟨.nil, rfl⟩⟩
theorem da_cons {m : Mi D} {ms : Mi (List D)} (h1 : DE X W p1 G e m) (h2 : DA X W p2 G es ms) (hs : starEach (e :: es) X.env = (false, eval e X.env) :: starEach es X.env := by rfl) : DA X W (p1 && (p2 && true)) G (e :: es) (aCons m ms) := by
  obtain ⟨t1, pe1, l1⟩ := h1
  obtain ⟨t2, pe2, l2⟩ := h2
  refine ⟨_, pa_cons pe1 pe2 hs, fun F H A σ ρ Q wf en hp => ?_⟩
  refine l1.use wf en hp fun d1 ρ1 x H1 F1 A1 s1 wf1 en1 r1 _ hp => ?_
  refine l2.use wf1 en1 hp fun d2 ρ2 y H2 F2 A2 s2 wf2 en2 r2 _ hp => ?_
  exact hp.fin0 wf2 en2 ⟨.cons (r1.mono (s2.fut wf1)) r2.1, congrArg (· + 1) r2.2⟩
def eTup (m : Mi (List D)) : Mi D := bnd m fun ds => lift (if ds.length ≤ 16777216 then some (.tup ds) else none)
theorem szl : sizeLine = 16777216 := by decide
theorem de_tup {m : Mi (List D)} {k} (h : DA X W p G es m) : DE X W (p && true) G (.Tuple es k pos) (eTup m) := by
  obtain ⟨t, pe, l⟩ := h
  refine ⟨_, pe_tupN pe, fun F H A σ ρ Q wf en hp => ?_⟩
  refine l.use wf en hp fun ds ρ1 xs H1 F1 A1 s1 wf1 en1 r1 _ hp => ?_
  obtain ⟨d, e, hp⟩ := hp.lift
  split at e
  · cases e
    exact ⟨by rw [r1.1.length, szl]; assumption, fun q o hq ho => hp.fin wf1 en1 (Pst.lay hq) (rp_new_tup hq ho r1.1)⟩
  · cases e
def eLst (m : Mi (List D)) : Mi D := bnd m fun ds => lift (if ds.length ≤ 16777216 then some (.lst ds) else none)
theorem ow_lst {K : PySem.W.Frag} {q : Addr} {vs ds} (hq : H q = none) (hF : ∀ a, F a → H a ≠ none) (r : Rps K F H vs ds) : Ow K F (upd H q (.lst vs)) (.lst .fz) (.ref q) (.lst ds) [q] :=
  ⟨q, vs, ds, [], rfl, rfl, upd_same, all3_of (r.mono (Pst.lay0 hq hF).fut), rfl⟩
theorem do_lst {m : Mi (List D)} (h : DA X W p G es m) : DO X W (p && true) (.lst .fz) G (.List es pos) (eLst m) := by
  obtain ⟨t, pe, l⟩ := h
  refine ⟨_, pe_lst pe, fun F H A σ ρ Q wf en hp => ?_⟩
  refine l.useO wf en hp fun ds ρ1 xs H1 F1 A1 s1 wf1 en1 r1 _ hp => ?_
  obtain ⟨d, e, hp⟩ := hp.lift
  split at e
  · cases e
    exact ⟨by rw [r1.1.length, szl]; assumption, fun q hq => hp.new wf1 en1 hq (ow_lst hq wf1.f r1.1)⟩
  · cases e

/-! ### subscripts -/
def ixD : D → D → Option D
  | .lst xs, .v (.int i) => atI xs i
  | .tup xs, .v (.int i) => atI xs i
  | .v (.str s), .v (.int i) => if s.length ≤ sizeLine then (atI s.cps.toList i).map fun c => .str ⟨#[c]⟩ else none
  | .scr ns, .v (.int i) => (atI ns i).map D.int
  | _, _ => none
def eIx (ma mb : Mi D) : Mi D := bnd ma fun x => bnd mb fun y => lift (ixD x y)
theorem atI_at {α : Type} {xs : List α} {i : Int} {v : α} (h : atI xs i = some v) : ∃ j, ixN xs.length i = some j ∧ xs[j]? = some v := by
  unfold atI at h
  cases e : ixN xs.length i with
  | none => rw [e] at h; cases h
  | some j => rw [e] at h; exact ⟨j, rfl, h⟩
theorem atI_of {α : Type} {xs : List α} {i : Int} {j : Nat} {v : α} (h1 : ixN xs.length i = some j) (h2 : xs[j]? = some v) : atI xs i = some v := by
  unfold atI
  rw [h1]
  exact h2
theorem ix_run {K : PySem.W.Frag} {x y : V} {d1 d2 d : D} {Q : VK} (rx : Rr K F H x d1) (ry : Rp K F H y d2) (e : ixD d1 d2 = some d) (k : ∀ w, Rp K F H w d → Q w H) : rIx K x y H Q := by
  have seq : ∀ {vs : List V} {ds : List D} {i : Int}, Rps K F H vs ds → atI ds i = some d → ∃ v, atI vs i = some v ∧ Rp K F H v d := fun {vs ds i} r h => by
    obtain ⟨j, h1, h2⟩ := atI_at h
    obtain ⟨v, h3, h4⟩ := r.get h2
    exact ⟨v, atI_of (by rw [r.length]; exact h1) h3, h4⟩
  unfold ixD at e
  split at e
  · cases ry
    rcases rx with h | ⟨q, vs, ds, rfl, e2, h, r⟩ | ⟨q, vs, ds, rfl, e2, h, r⟩ | ⟨q, vs, ds, rfl, e2, h, r⟩
    · cases h with
      | lst f h r =>
        obtain ⟨v, h1, h2⟩ := seq r e
        exact .inl ⟨_, _, _, v, rfl, rfl, SqL.of h, h1, k v h2⟩
    · cases e2
      obtain ⟨v, h1, h2⟩ := seq r e
      exact .inl ⟨_, _, _, v, rfl, rfl, SqL.of h, h1, k v h2⟩
    · cases e2
    · cases e2
  · cases ry
    rcases rx with h | ⟨q, vs, ds, rfl, e2, h, r⟩ | ⟨q, vs, ds, rfl, e2, h, r⟩ | ⟨q, vs, ds, rfl, e2, h, r⟩
    · cases h with
      | tup h r =>
        obtain ⟨v, h1, h2⟩ := seq r e
        exact .inr (.inl ⟨_, _, _, v, rfl, rfl, h.sq, h1, k v h2⟩)
    all_goals cases e2
  · cases ry
    rcases rx with h | ⟨q, vs, ds, rfl, e2, h, r⟩ | ⟨q, vs, ds, rfl, e2, h, r⟩ | ⟨q, vs, ds, rfl, e2, h, r⟩
    · cases h
      split at e
      · obtain ⟨c, h1, h2⟩ := Option.map_eq_some_iff.mp e
        subst h2
        exact .inr (.inr ⟨_, _, c, rfl, rfl, by assumption, h1, k _ (.v _)⟩)
      · cases e
    all_goals cases e2
  · cases ry
    rcases rx with h | ⟨q, vs, ds, rfl, e2, h, r⟩ | ⟨q, vs, ds, rfl, e2, h, r⟩ | ⟨q, vs, ds, rfl, e2, h, r⟩
    · cases h with
      | scr h =>
        obtain ⟨c, h1, h2⟩ := Option.map_eq_some_iff.mp e
        subst h2
        obtain ⟨j, h3, h4⟩ := atI_at h1
        exact .inl ⟨_, _, _, .int c, rfl, rfl, h.sq, atI_of (by rw [List.length_map]; exact h3) (by rw [List.getElem?_map, h4]; rfl), k _ (.v _)⟩
    all_goals cases e2
  · cases e
theorem de_ix {ma mb : Mi D} (ha : DE X W p1 G a ma) (hb : DE X W p2 G b mb) (hs : PlainIx b := by exact fun _ _ => rfl) : DE X W (p1 && (p2 && true)) G (.Subscript a b pos) (eIx ma mb) := by
  obtain ⟨ta, pa, la⟩ := ha
  obtain ⟨tb, pb, lb⟩ := hb
  refine ⟨_, pe_ix ix_seq pa pb hs, fun F H A σ ρ Q wf en hp => ?_⟩
  refine la.use wf en hp fun d1 ρ1 x H1 F1 A1 s1 wf1 en1 r1 _ hp => ?_
  refine lb.use wf1 en1 hp fun d2 ρ2 y H2 F2 A2 s2 wf2 en2 r2 _ hp => ?_
  obtain ⟨d, e, hp⟩ := hp.lift
  exact ix_run (.inl (r1.mono (s2.fut wf1))) r2 e fun w r => hp.fin0 wf2 en2 r
theorem de_ixR {ma mb : Mi D} (ha : DR X W p1 G a ma) (hb : DE X W true G b mb) (hs : PlainIx b := by exact fun _ _ => rfl) : DE X W (p1 && (true && true)) G (.Subscript a b pos) (eIx ma mb) := by
  obtain ⟨ta, pa, la⟩ := ha
  obtain ⟨tb, pb, lb⟩ := hb
  refine ⟨_, pe_ix ix_seq pa pb hs, fun F H A σ ρ Q wf en hp => ?_⟩
  refine la.use wf en hp fun d1 ρ1 x H1 F1 A1 s1 wf1 en1 r1 _ hp => ?_
  refine lb.use wf1 en1 hp fun d2 ρ2 y H2 F2 A2 s2 wf2 en2 r2 ps hp => ?_
  obtain ⟨d, e, hp⟩ := hp.lift
  exact ix_run (r1.later (ps rfl)) r2 e fun w r => hp.fin0 wf2 en2 r

/-! ### slices -/
def cutL {α : Type} (xs : List α) (lo hi : Option Int) : List α := (xs.drop (HT.sIx xs.length 0 lo)).take (HT.sIx xs.length xs.length hi - HT.sIx xs.length 0 lo)
def asI : D → Option Int
  | .v (.int i) => some i
  | _ => none
def oNone : Mi (Option Int) := ret none
def oSome (m : Mi D) : Mi (Option Int) := bnd m fun x => lift ((asI x).map some)
def DP (X : Cx) (W : WX) (p : Bool) (G : List Sh) (e : Option Expr) (m : Mi (Option Int)) : Prop := ∃ t, PO X e t ∧ Tl X W p (fun _ _ a b => a = b) G t m
theorem dp_none : DP X W true G none oNone := ⟨_, po_none, fun F H A σ ρ Q wf en hp => hp.fin0 wf en rfl⟩
theorem dp_some {m : Mi D} (h : DE X W p G e m) : DP X W (p && true) G (some e) (oSome m) := by
  obtain ⟨t, pe, l⟩ := h
  refine ⟨_, po_some pe, fun F H A σ ρ Q wf en hp => ?_⟩
  refine l.use wf en hp fun d1 ρ1 x H1 F1 A1 s1 wf1 en1 r1 _ hp => ?_
  obtain ⟨d, e, hp⟩ := hp.lift
  obtain ⟨i, h1, h2⟩ := Option.map_eq_some_iff.mp e
  subst h2
  unfold asI at h1
  split at h1
  · cases h1; cases r1; exact ⟨_, rfl, hp.fin0 wf1 en1 rfl⟩
  · cases h1
def eSl (f : D → Option Int → Option Int → Option D) (ma : Mi D) (ml mh : Mi (Option Int)) : Mi D := bnd ma fun x => bnd ml fun lo => bnd mh fun hi => lift (f x lo hi)
theorem cut_rps {K : PySem.W.Frag} {vs ds} (r : Rps K F H vs ds) (lo hi : Option Int) : Rps K F H (cutV vs lo hi) (cutL ds lo hi) := by
  unfold cutV cutL
  rw [r.length]
  exact (r.drop _).take _
theorem cut_whole {α : Type} {xs : List α} {lo hi : Option Int} (h : HT.sIx xs.length 0 lo = 0 ∧ HT.sIx xs.length xs.length hi = xs.length) : cutL xs lo hi = xs := by
  unfold cutL
  rw [h.1, h.2]
  simp
variable {lo hi : Option Expr} {q2 : Pos}
/-! ### truth, and, or, not, if -/
def asB : D → Option Bool
  | .v (.bl b) => some b
  | _ => none
theorem asB_v {K : PySem.W.Frag} {v : V} {d : D} {k : Bool} (r : Rp K F H v d) (e : asB d = some k) : v = .bl k := by
  unfold asB at e
  split at e
  · cases e; cases r; rfl
  · cases e
def tVal (m : Mi D) : Mi Bool := bnd m fun x => lift (asB x)
theorem dt_val {m : Mi D} (h : DE X W p G e m) (he : ∀ whole, isTrue e X.env whole = (do let v ← whole; standAt e.pos; holding [v] (truthy v)) := by intro _; rfl) : DT X W (p && true) G e (tVal m) := by
  obtain ⟨t, pe, l⟩ := h
  refine ⟨_, pt_val pe he, fun F H A σ ρ Q wf en hp => ?_⟩
  refine l.use wf en hp fun d1 ρ1 x H1 F1 A1 s1 wf1 en1 r1 _ hp => ?_
  obtain ⟨k, e, hp⟩ := hp.lift
  exact ⟨k, asB_v r1 e, hp.fin0 wf1 en1 rfl⟩
theorem DW.dt {m : Mi Bool} (h : DW X W p G e m) : DT X W p G e m := by
  obtain ⟨t, pe, l⟩ := h
  exact ⟨t, pe.pt, l⟩
def tNotM (m : Mi Bool) : Mi Bool := bnd m fun k => ret (!k)
theorem dt_not {m : Mi Bool} (h : DT X W p G a m) : DT X W (p && true) G (.UnaryOp .Not a pos) (tNotM m) := by
  obtain ⟨t, pe, l⟩ := h
  refine ⟨_, pt_not pe, fun F H A σ ρ Q wf en hp => ?_⟩
  refine l.use wf en hp fun k ρ1 k' H1 F1 A1 s1 wf1 en1 r1 _ hp => ?_
  cases r1
  exact hp.fin0 wf1 en1 rfl
def tAndM (m n : Mi Bool) : Mi Bool := bnd m fun k => if k = true then n else ret false
def tOrM (m n : Mi Bool) : Mi Bool := bnd m fun k => if k = true then ret true else n
theorem dw_and1 {m : Mi Bool} (h : DT X W p G a m) : DW X W p G (.BoolOp .And [a] pos) m := by
  obtain ⟨t, pe, l⟩ := h
  exact ⟨t, pw_and1 pe, l⟩
theorem dw_or1 {m : Mi Bool} (h : DT X W p G a m) : DW X W p G (.BoolOp .Or [a] pos) m := by
  obtain ⟨t, pe, l⟩ := h
  exact ⟨t, pw_or1 pe, l⟩
variable {rest : List Expr}
theorem dw_and {m n : Mi Bool} (h1 : DT X W p1 G a m) (h2 : DW X W p2 G (.BoolOp .And (b :: rest) pos) n) : DW X W (p1 && p2) G (.BoolOp .And (a :: b :: rest) pos) (tAndM m n) := by
  obtain ⟨t1, pe1, l1⟩ := h1
  obtain ⟨t2, pe2, l2⟩ := h2
  refine ⟨_, pw_and pe1 pe2, fun F H A σ ρ Q wf en hp => ?_⟩
  refine l1.use wf en hp fun k ρ1 k' H1 F1 A1 s1 wf1 en1 r1 _ hp => ?_
  cases r1
  cases k with
  | true => exact iteT (l2 _ _ _ _ _ _ wf1 en1 hp)
  | false => exact iteF (hp.fin0 wf1 en1 rfl)
theorem dw_or {m n : Mi Bool} (h1 : DT X W p1 G a m) (h2 : DW X W p2 G (.BoolOp .Or (b :: rest) pos) n) : DW X W (p1 && p2) G (.BoolOp .Or (a :: b :: rest) pos) (tOrM m n) := by
  obtain ⟨t1, pe1, l1⟩ := h1
  obtain ⟨t2, pe2, l2⟩ := h2
  refine ⟨_, pw_or pe1 pe2, fun F H A σ ρ Q wf en hp => ?_⟩
  refine l1.use wf en hp fun k ρ1 k' H1 F1 A1 s1 wf1 en1 r1 _ hp => ?_
  cases r1
  cases k with
  | true => exact iteT (hp.fin0 wf1 en1 rfl)
  | false => exact iteF (l2 _ _ _ _ _ _ wf1 en1 hp)
def eAnd (m n : Mi D) : Mi D := bnd m fun x => bnd (lift (asB x)) fun k => if k = true then n else ret (.bl false)
def eOr (m n : Mi D) : Mi D := bnd m fun x => bnd (lift (asB x)) fun k => if k = true then ret (.bl true) else n
def eNot (m : Mi D) : Mi D := bnd m fun x => bnd (lift (asB x)) fun k => ret (.bl (!k))
theorem de_one {op} {m : Mi D} (h : DE X W p G a m) : DE X W p G (.BoolOp op [a] pos) m := by
  obtain ⟨t, pe, l⟩ := h
  exact ⟨t, pe_one pe, l⟩
theorem Pg.liftB {o : Option α} {k : α → Mi γ} {Q : δ → Hp → Prop} (h : Pg X W p S G σ F H A ρ (bnd (DM.lift o) k ρ) Q) : ∃ d, o = some d ∧ Pg X W p S G σ F H A ρ (k d ρ) Q := by
  cases o with
  | none => exact (show False from h).elim
  | some d => exact ⟨d, rfl, h⟩
theorem de_and {m n : Mi D} (h1 : DE X W p1 G a m) (h2 : DE X W p2 G (.BoolOp .And (b :: rest) pos) n) : DE X W (p1 && p2) G (.BoolOp .And (a :: b :: rest) pos) (eAnd m n) := by
  obtain ⟨t1, pe1, l1⟩ := h1
  obtain ⟨t2, pe2, l2⟩ := h2
  refine ⟨_, pe_and pe1 pe2, fun F H A σ ρ Q wf en hp => ?_⟩
  refine l1.use wf en hp fun d ρ1 x H1 F1 A1 s1 wf1 en1 r1 _ hp => ?_
  obtain ⟨k, e, hp⟩ := hp.liftB
  refine ⟨k, asB_v r1 e, ?_⟩
  cases k with
  | true => exact iteT (l2 _ _ _ _ _ _ wf1 en1 hp)
  | false => exact iteF (hp.fin0 wf1 en1 (.v _))
theorem de_not {m : Mi D} (h : DE X W p G a m) : DE X W (p && true) G (.UnaryOp .Not a pos) (eNot m) := by
  obtain ⟨t, pe, l⟩ := h
  refine ⟨_, pe_not pe, fun F H A σ ρ Q wf en hp => ?_⟩
  refine l.use wf en hp fun d ρ1 x H1 F1 A1 s1 wf1 en1 r1 _ hp => ?_
  obtain ⟨k, e, hp⟩ := hp.liftB
  exact ⟨k, asB_v r1 e, hp.fin0 wf1 en1 (.v _)⟩
def eIf (c : Mi Bool) (m n : Mi D) : Mi D := bnd c fun k => if k = true then m else n
theorem de_if {mc : Mi Bool} {m n : Mi D} (hc : DT X W p1 G c mc) (h1 : DE X W p2 G a m) (h2 : DE X W p3 G b n) : DE X W (p1 && (p2 && p3)) G (.IfExp c a b pos) (eIf mc m n) := by
  obtain ⟨tc, pec, lc⟩ := hc
  obtain ⟨t1, pe1, l1⟩ := h1
  obtain ⟨t2, pe2, l2⟩ := h2
  refine ⟨_, pe_ifExp pec pe1 pe2, fun F H A σ ρ Q wf en hp => ?_⟩
  refine lc.use wf en hp fun k ρ1 k' H1 F1 A1 s1 wf1 en1 r1 _ hp => ?_
  cases r1
  cases k with
  | true => exact iteT (l1 _ _ _ _ _ _ wf1 en1 (Pg.mono_p hp fun z => (Bool.and_eq_true_iff.mp z).1))
  | false => exact iteF (l2 _ _ _ _ _ _ wf1 en1 (Pg.mono_p hp fun z => (Bool.and_eq_true_iff.mp z).2))
def opNeg : D → Option D
  | .v (.int i) => some (.int (-i))
  | _ => none
def eUn (f : D → Option D) (m : Mi D) : Mi D := bnd m fun x => lift (f x)
theorem de_neg {m : Mi D} (h : DE X W p G a m) : DE X W (p && true) G (.UnaryOp .USub a pos) (eUn opNeg m) := by
  obtain ⟨t, pe, l⟩ := h
  refine ⟨_, pe_un un_neg pe, fun F H A σ ρ Q wf en hp => ?_⟩
  refine l.use wf en hp fun d ρ1 x H1 F1 A1 s1 wf1 en1 r1 _ hp => ?_
  obtain ⟨z, e, hp⟩ := hp.lift
  unfold opNeg at e
  split at e
  · cases e; cases r1; exact ⟨_, rfl, hp.fin0 wf1 en1 (.v _)⟩
  · cases e
theorem de_chain {op op' : CmpOp} {r r' : R2} {f g : D → D → Option Bool} {ma mb mc : Mi D} (ho : OpR X (compareOp op) r) (ho' : OpR X (compareOp op') r') (hf : VCmp X.K r f) (hg : VCmp X.K r' g) (ha : DE X W p1 G a ma) (hb : DE X W p2 G b mb) (hc : DE X W p3 G c mc)
    (hm : lastMarks [op, op'] [b, c] = false := by with_unfolding_all rfl) : DE X W (p1 && (p2 && (p3 && true))) G (.Compare a [op, op'] [b, c] pos) (eChain f g ma mb mc) := by
  obtain ⟨ta, pa, la⟩ := ha
  obtain ⟨tb, pb, lb⟩ := hb
  obtain ⟨tc, pc, lc⟩ := hc
  refine ⟨_, pe_chain ho ho' pa pb pc hm, fun F H A σ ρ Q wf en hp => ?_⟩
  refine la.use wf en hp fun d1 ρ1 x H1 F1 A1 s1 wf1 en1 r1 _ hp => ?_
  refine lb.use wf1 en1 hp fun d2 ρ2 y H2 F2 A2 s2 wf2 en2 r2 _ hp => ?_
  obtain ⟨k, e, hp⟩ := hp.liftB
  refine hf H2 x y d1 d2 k _ (r1.mono (s2.fut wf1)).rc r2.rc e ⟨k, rfl, ?_⟩
  cases k with
  | false => exact iteF (hp.fin0 wf2 en2 (.v _))
  | true =>
    refine iteT ?_
    refine lc.use wf2 en2 hp fun d3 ρ3 z H3 F3 A3 s3 wf3 en3 r3 _ hp => ?_
    obtain ⟨d, e', hp⟩ := hp.lift
    obtain ⟨k', h1, h2⟩ := Option.map_eq_some_iff.mp e'
    subst h2
    exact hg H3 y z d2 d3 k' _ (r2.mono (s3.fut wf2)).rc r3.rc h1 (hp.fin0 wf3 en3 (.v _))
theorem dt_chain {op op' : CmpOp} {r r' : R2} {f g : D → D → Option Bool} {ma mb mc : Mi D} (ho : OpR X (compareOp op) r) (ho' : OpR X (compareOp op') r') (hf : VCmp X.K r f) (hg : VCmp X.K r' g) (ha : DE X W p1 G a ma) (hb : DE X W p2 G b mb) (hc : DE X W p3 G c mc)
    (hm : lastMarks [op, op'] [b, c] = false := by with_unfolding_all rfl) : DT X W (p1 && (p2 && (p3 && true))) G (.Compare a [op, op'] [b, c] pos) (tChn f g ma mb mc) := by
  obtain ⟨ta, pa, la⟩ := ha
  obtain ⟨tb, pb, lb⟩ := hb
  obtain ⟨tc, pc, lc⟩ := hc
  refine ⟨_, pt_chain ho ho' pa pb pc hm, fun F H A σ ρ Q wf en hp => ?_⟩
  refine la.use wf en hp fun d1 ρ1 x H1 F1 A1 s1 wf1 en1 r1 _ hp => ?_
  refine lb.use wf1 en1 hp fun d2 ρ2 y H2 F2 A2 s2 wf2 en2 r2 _ hp => ?_
  obtain ⟨k, e, hp⟩ := hp.liftB
  refine hf H2 x y d1 d2 k _ (r1.mono (s2.fut wf1)).rc r2.rc e ⟨k, rfl, ?_⟩
  cases k with
  | false => exact iteF ⟨_, rfl, hp.fin0 wf2 en2 rfl⟩
  | true =>
    refine iteT ?_
    refine lc.use wf2 en2 hp fun d3 ρ3 z H3 F3 A3 s3 wf3 en3 r3 _ hp => ?_
    obtain ⟨k', h1, hp⟩ := hp.lift
    exact hg H3 y z d2 d3 k' _ (r2.mono (s3.fut wf2)).rc r3.rc h1 ⟨_, rfl, hp.fin0 wf3 en3 rfl⟩
end
end DM
/-! DmF: defs: their promise by a function of data; calls. -/
namespace DM
open PySem PySem.Spec PyProof.Rows L2
variable [LamT]

/-- what a def gives: its value and its arguments as they are then -/
inductive FO where
  | ok (d : D) (ds : List D)
  | exc (x : Xn) (ds : List D)
  | bad
abbrev Mf := List D → FO

section
variable (P : Program) (w : World) (K : PySem.W.Frag) (mg : Str → Option Value) (base : Heap)
/-- like FnOk; where no repr is under way -/
structure FnG (k : Nat) (f : Addr) (fd : FuncData) (ps : List Str) (sp : Sp) : Prop where
  len : ∀ vs H Q E, sp vs H Q E → vs.length = ps.length
  run : ∀ (A : Around) (outer : List PySem.Env) (s : Shared) (H : Hp) (args : Args) (us : List Value) (vs : List V) (Q : VK) (E : XK), Room k A → A.guards = some [] → Env0 P w K mg base A outer s H →
    BindsTo s fd args (ps.zip us) → Vals vs us → sp vs H Q E → codeAny (model P w) A (.call (.ref f) args) (CR (L2.CX P w) outer P w H s Q E) s
end
section
variable {P : Program} {w : World} {K : PySem.W.Frag} {mg : Str → Option Value} {base : Heap}
theorem FnG.mono {j k : Nat} {f fd ps sp} (F : FnG P w K mg base j f fd ps sp) (h : j ≤ k) : FnG P w K mg base k f fd ps sp :=
  ⟨F.len, fun A outer s H args us vs Q E hr => F.run A outer s H args us vs Q E (hr.mono h)⟩
theorem FnG.of {x qual : Str} {st : Stmt} {f : Addr} {fd : FuncData} {N ps : List Str} {k : Nat} {sp : Sp} (F : Fun K x qual st f fd) (S : FnScope N ps (defScope st)) (len : ∀ vs H Q E, sp vs H Q E → vs.length = ps.length)
    (hbody : ∀ (cdv : Value) (A : Around) (outer : List PySem.Env) (s : Shared) (H : Hp) (vs : List V) (Q : VK) (E : XK), Room k (A.deeper (envOfC qual (defScope st) s.heap.objs.size f cdv)) → (A.deeper (envOfC qual (defScope st) s.heap.objs.size f cdv)).guards = some [] → sp vs H Q E →
      ∃ t, PSs (cxOf (L2.CX P w) P w K mg base N qual (defScope st) f cdv A outer s H E) (defBody st) t ∧ t { nx := fun _ H' => Q .non H', rt := Q } (start N vs) H) : FnG P w K mg base (k + 1) f fd ps sp := by
  obtain ⟨oc, od, kV, doc, pm, an, cdv, ct, osl, e0, lk, hcd⟩ := F.ex
  subst e0
  constructor
  · exact len
  intro A outer s H args us vs Q E hr hg e0 hb r hsp
  have old : ∀ b o, base.get? b = some o → s.heap.get? b = some o := fun b o e => (e0.bs b o e).1
  have inS : K.In s.heap := e0.mod.kin.keeps old
  apply codeAny_call_function hr.depth (inS _ _ lk) rfl S.co S.gen rfl (PySem.W.codeRec_of inS hcd)
  apply hb
  apply wpAny_newFunctionEnv_cells S.kind
  · intro y hy
    obtain ⟨n, v⟩ := y
    cases S.par n (List.of_mem_zip hy).1 with
    | inl q => exact .inl q
    | inr q => exact .inr ⟨q, PySem.W.cellsFrom_some _ _ _ (.inl q)⟩
  · intro env he s1 x
    subst he
    refine ⟨(e0.mod.nolimit.keeps old).keeps x.toInCall.keep, codeAny_func ?_⟩
    obtain ⟨t, pt, ht⟩ := hbody cdv A outer s H vs Q E (hr.deeper _) (by show A.guards = some []; exact hg) hsp
    have I := inv_start (CX := L2.CX P w) (E := E) S hr.hd e0 (len _ _ _ _ hsp) r x
    refine wpAny_mono (pt.run [] s1 (start N vs) H _ I ht) ?_ (fun _ _ z => z)
    intro fl s' hs
    cases fl with
    | next =>
      obtain ⟨σ2, H2, J, q⟩ := hs
      exact ⟨.non, H2, J.os, J.bare, J.base, J.hok, rfl, q⟩
    | ret u =>
      obtain ⟨v, σ2, H2, J, rv, q⟩ := hs
      exact ⟨v, H2, J.os, J.bare, J.base, J.hok, rv, q⟩
    | brk => obtain ⟨_, _, _, q⟩ := hs; exact q.elim
    | cont => obtain ⟨_, _, _, q⟩ := hs; exact q.elim
end

/-! ### the promise by data -/
def spD (K : PySem.W.Frag) (mg : Str → Option Value) (sh : List Sh) (sr : Sh) (m : Mf) : Sp := fun vs H Q E => vs.length = sh.length ∧ ∃ F A ds, Wf F H A ∧ EnvR K F H sh (vs.map some) (ds.map some) A ∧
  match m ds with
  | .ok d ds' => ∀ v H' F' A' B, Stp F H A F' H' (B ++ A') → Wf F' H' (B ++ A') → EnvR K F' H' sh (vs.map some) (ds'.map some) A' → Ow K F' H' sr v d B → Q v H'
  | .exc x ds' => ∀ cls dd H' F' A', Stp F H A F' H' A' → Wf F' H' A' → EnvR K F' H' sh (vs.map some) (ds'.map some) A' → XR K mg F' H' x cls dd → E cls dd H'
  | .bad => False

/-! ### arguments that are handed over as owned -/
section
variable {K : PySem.W.Frag} {F : FS} {H : Hp} {A B : List Addr} {σ : L2.St} {ρ : Env} {G : List Sh}
theorem Wf.perm (h : Wf F H A) (p : A.Perm B) : Wf F H B := ⟨h.f, fun a ha => h.a a (p.mem_iff.mpr ha), p.nodup_iff.mp h.nd, fun a ha => h.ap a (p.mem_iff.mpr ha)⟩
theorem EnvR.take : ∀ {G : List Sh} {σ : L2.St} {ρ : Env} {A} {i : Nat} {s : Sh} {d : D}, EnvR K F H G σ ρ A → G[i]? = some s → ρ[i]? = some (some d) →
    ∃ v B A', σ[i]? = some (some v) ∧ Ow K F H s v d B ∧ EnvR K F H G σ (ρ.set i none) A' ∧ A.Perm (B ++ A')
  | [], [], [], _, i, s, d, h, e, _ => by simp at e
  | _ :: G, _ :: σ, none :: ρ, A, 0, s, d, h, _, e => by simp at e
  | g :: G, x :: σ, none :: ρ, A, i + 1, s, d, h, e, e' => by
    obtain ⟨v, B, A', a, b, c, q⟩ := EnvR.take (i := i) (show EnvR K F H _ _ _ _ from by simpa only [EnvR] using h) (by simpa using e) (by simpa using e')
    exact ⟨v, B, A', by simpa using a, b, by simpa only [List.set, EnvR] using c, q⟩
  | g :: G, some v :: σ, some d' :: ρ, A, 0, s, d, ⟨A1, A2, h1, h2, eA⟩, e, e' => by
    simp at e e'; subst e; subst e'
    exact ⟨v, A1, A2, rfl, h1, by simpa only [List.set, EnvR] using h2, by rw [eA]⟩
  | g :: G, some w :: σ, some d' :: ρ, A, i + 1, s, d, ⟨A1, A2, h1, h2, eA⟩, e, e' => by
    obtain ⟨v, B, A', a, b, c, q⟩ := EnvR.take (i := i) h2 (by simpa using e) (by simpa using e')
    refine ⟨v, B, A1 ++ A', by simpa using a, b, ⟨A1, A', h1, c, rfl⟩, ?_⟩
    rw [eA]
    refine (List.Perm.append_left A1 q).trans ?_
    rw [← List.append_assoc, ← List.append_assoc]
    exact List.Perm.append_right A' List.perm_append_comm
  | [], [], _ :: _, _, _, _, _, h, _, _ => by simp [EnvR] at h
  | [], _ :: _, _, _, _, _, _, h, _, _ => by simp [EnvR] at h
  | _ :: _, [], _, _, _, _, _, h, _, _ => by simp [EnvR] at h
  | _ :: _, _ :: _, [], _, _, _, _, h, _, _ => by simp [EnvR] at h
  | _ :: _, none :: _, some _ :: _, _, _, _, _, h, _, _ => by simp [EnvR] at h
theorem EnvR.put : ∀ {G : List Sh} {σ : L2.St} {ρ : Env} {A} {i : Nat} {s : Sh} {v : V} {d : D} {B}, EnvR K F H G σ ρ A → G[i]? = some s → ρ[i]? = some none → σ[i]? = some (some v) → Ow K F H s v d B →
    ∃ A', EnvR K F H G σ (ρ.set i (some d)) A' ∧ A'.Perm (B ++ A)
  | [], [], [], _, i, s, v, d, B, h, e, _, _, _ => by simp at e
  | g :: G, x :: σ, none :: ρ, A, 0, s, v, d, B, h, e, _, e2, o => by
    simp at e e2; subst e; subst e2
    exact ⟨B ++ A, ⟨B, A, o, by simpa only [EnvR] using h, rfl⟩, List.Perm.refl _⟩
  | g :: G, x :: σ, some d' :: ρ, A, 0, s, v, d, B, h, e, e1, e2, o => by simp at e1
  | g :: G, x :: σ, none :: ρ, A, i + 1, s, v, d, B, h, e, e1, e2, o => by
    obtain ⟨A', c, q⟩ := EnvR.put (i := i) (show EnvR K F H _ _ _ _ from by simpa only [EnvR] using h) (by simpa using e) (by simpa using e1) (by simpa using e2) o
    exact ⟨A', by simpa only [List.set, EnvR] using c, q⟩
  | g :: G, some w :: σ, some d' :: ρ, A, i + 1, s, v, d, B, ⟨A1, A2, h1, h2, eA⟩, e, e1, e2, o => by
    obtain ⟨A', c, q⟩ := EnvR.put (i := i) h2 (by simpa using e) (by simpa using e1) (by simpa using e2) o
    refine ⟨A1 ++ A', ⟨A1, A', h1, c, rfl⟩, ?_⟩
    rw [eA]
    refine (List.Perm.append_left A1 q).trans ?_
    rw [← List.append_assoc, ← List.append_assoc]
    exact List.Perm.append_right A2 List.perm_append_comm
  | [], [], _ :: _, _, _, _, _, _, _, h, _, _, _, _ => by simp [EnvR] at h
  | [], _ :: _, _, _, _, _, _, _, _, h, _, _, _, _ => by simp [EnvR] at h
  | _ :: _, [], _, _, _, _, _, _, _, h, _, _, _, _ => by simp [EnvR] at h
  | _ :: _, _ :: _, [], _, _, _, _, _, _, h, _, _, _, _ => by simp [EnvR] at h
  | _ :: _, none :: _, some _ :: _, _, _, _, _, _, _, h, _, _, _, _ => by simp [EnvR] at h

abbrev Ag := Sum D Nat
/-- values side by side: those that stay, and the slots' own -/
inductive AgR (K : PySem.W.Frag) (F : FS) (H : Hp) (G : List Sh) (σ : L2.St) : List Sh → List V → List Ag → Prop
  | nil : AgR K F H G σ [] [] []
  | val {v d sh vs xs} : Rp K F H v d → AgR K F H G σ sh vs xs → AgR K F H G σ (.fz :: sh) (v :: vs) (.inl d :: xs)
  | own {g s v i sh vs xs} : G[i]? = some g → (g = s ∨ g = .at_ v s) → σ[i]? = some (some v) → AgR K F H G σ sh vs xs → AgR K F H G σ (s :: sh) (v :: vs) (.inr i :: xs)
theorem AgR.mono {F' : FS} {H' : Hp} (m : Fut F H F' H') : ∀ {sh vs xs}, AgR K F H G σ sh vs xs → AgR K F' H' G σ sh vs xs
  | _, _, _, .nil => .nil
  | _, _, _, .val r t => .val (r.mono m) (AgR.mono m t)
  | _, _, _, .own a c b t => .own a c b (AgR.mono m t)
theorem AgR.len : ∀ {sh vs xs}, AgR K F H G σ sh vs xs → vs.length = sh.length
  | _, _, _, .nil => rfl
  | _, _, _, .val r t => congrArg (· + 1) (AgR.len t)
  | _, _, _, .own a c b t => congrArg (· + 1) (AgR.len t)
def fetch : List Ag → Env → Option (List D × Env)
  | [], ρ => some ([], ρ)
  | .inl d :: xs, ρ => (fetch xs ρ).map fun r => (d :: r.1, r.2)
  | .inr i :: xs, ρ => match ρ[i]? with
    | some (some d) => (fetch xs (ρ.set i none)).map fun r => (d :: r.1, r.2)
    | _ => none
def putBack : List Ag → List D → Env → Option Env
  | [], [], ρ => some ρ
  | .inl _ :: xs, _ :: ds, ρ => putBack xs ds ρ
  | .inr i :: xs, d :: ds, ρ => match ρ[i]? with
    | some none => (putBack xs ds (ρ.set i (some d)))
    | _ => none
  | _, _, _ => none
theorem ow_sub {g s : Sh} {v : V} {d : D} (gs : g = s ∨ g = .at_ v s) (o : Ow K F H g v d B) : Ow K F H s v d B := by
  rcases gs with q | q
  · rw [← q]; exact o
  · rw [q] at o; exact o.2
theorem ow_sup {g s : Sh} {v : V} {d : D} (gs : g = s ∨ g = .at_ v s) (o : Ow K F H s v d B) : Ow K F H g v d B := by
  rcases gs with q | q
  · rw [q]; exact o
  · rw [q]; exact ⟨rfl, o⟩
theorem gather : ∀ {sh vs xs} {ρ ρ1 : Env} {A ds}, AgR K F H G σ sh vs xs → EnvR K F H G σ ρ A → fetch xs ρ = some (ds, ρ1) →
    ∃ A1 A2, EnvR K F H sh (vs.map some) (ds.map some) A1 ∧ EnvR K F H G σ ρ1 A2 ∧ A.Perm (A1 ++ A2)
  | _, _, _, ρ, ρ1, A, ds, .nil, en, e => by
    cases e
    exact ⟨[], A, ⟨rfl, en.tb⟩, en, List.Perm.refl _⟩
  | _, _, _, ρ, ρ1, A, ds, .val (d := d) r t, en, e => by
    obtain ⟨⟨ds', ρ'⟩, h1, h2⟩ := Option.map_eq_some_iff.mp e
    cases h2
    obtain ⟨A1, A2, x, y, z⟩ := gather t en h1
    exact ⟨A1, A2, ⟨[], A1, ⟨r, rfl⟩, x, rfl⟩, y, z⟩
  | _, _, _, ρ, ρ1, A, ds, .own (i := i) g1 gs g2 t, en, e => by
    unfold fetch at e
    split at e
    · rename_i d ed
      obtain ⟨⟨ds', ρ'⟩, h1, h2⟩ := Option.map_eq_some_iff.mp e
      cases h2
      obtain ⟨v', B, A', s1, o, en', pm⟩ := en.take g1 ed
      rw [g2] at s1
      cases s1
      have o := ow_sub gs o
      obtain ⟨A1, A2, x, y, z⟩ := gather t en' h1
      refine ⟨B ++ A1, A2, ⟨B, A1, o, x, rfl⟩, y, pm.trans ?_⟩
      rw [List.append_assoc]
      exact List.Perm.append_left B z
    · cases e
theorem scatter : ∀ {sh vs xs} {ρ ρ1 : Env} {A2 A1 ds}, AgR K F H G σ sh vs xs → EnvR K F H G σ ρ A2 → EnvR K F H sh (vs.map some) (ds.map some) A1 → putBack xs ds ρ = some ρ1 →
    ∃ A, EnvR K F H G σ ρ1 A ∧ A.Perm (A1 ++ A2)
  | _, _, _, ρ, ρ1, A2, A1, ds, .nil, en, h, e => by
    cases ds with
    | nil =>
      cases e
      have h' : A1 = [] := h.1
      subst h'
      exact ⟨A2, en, List.Perm.refl _⟩
    | cons d ds => simp [EnvR] at h
  | _, _, _, ρ, ρ1, A2, A1, ds, .val r t, en, h, e => by
    cases ds with
    | nil => simp [EnvR] at h
    | cons d ds =>
      obtain ⟨B, A', h1, h2, h3⟩ := h
      obtain ⟨A, x, y⟩ := scatter t en h2 e
      refine ⟨A, x, ?_⟩
      have e1 : B = [] := h1.2
      rw [h3, e1]
      exact y
  | _, _, _, ρ, ρ1, A2, A1, ds, .own (i := i) g1 gs g2 t, en, h, e => by
    cases ds with
    | nil => simp [EnvR] at h
    | cons d ds =>
      obtain ⟨B, A', h1, h2, h3⟩ := h
      unfold putBack at e
      split at e
      · rename_i e1
        obtain ⟨A3, en', pm⟩ := en.put g1 e1 g2 (ow_sup gs h1)
        obtain ⟨A, x, y⟩ := scatter t en' h2 e
        refine ⟨A, x, y.trans ?_⟩
        rw [h3]
        refine (List.Perm.append_left A' pm).trans ?_
        rw [← List.append_assoc]
        exact List.Perm.append_right A2 List.perm_append_comm
      · cases e
end

def DG (X : Cx) (W : WX) (p : Bool) (G : List Sh) (sh : List Sh) (es : List Expr) (m : Mi (List Ag)) : Prop :=
  ∃ t, PA X es t ∧ ∀ F H A σ ρ Q, Wf F H A → EnvR X.K F H G σ ρ A → Pg X W p (fun F H vs xs => AgR X.K F H G σ sh vs xs) G σ F H A ρ (m ρ) Q → t σ H Q
def gVal (m : Mi D) (ms : Mi (List Ag)) : Mi (List Ag) := bnd m fun x => bnd ms fun xs => ret (.inl x :: xs)
def gOwn (i : Nat) (ms : Mi (List Ag)) : Mi (List Ag) := fun ρ => match ρ[i]? with
  | some (some _) => bnd ms (fun xs => ret (.inr i :: xs)) ρ
  | _ => .bad
def gNil : Mi (List Ag) := ret []
section
variable {X : Cx} {W : WX} {p p1 p2 p3 : Bool} {G : List Sh} {e a b c : Expr} {es : List Expr} {pos : Pos} {α β γ δ : Type} {F F1 : FS} {H H1 : Hp} {A A1 : List Addr} {σ : L2.St} {ρ ρ1 : Env} {s : Sh} {sh : List Sh}
theorem dg_nil : DG X W true G [] [] gNil := ⟨_, pa_nil, fun F H A σ ρ Q wf en hp => hp.fin0 wf en .nil⟩
theorem dg_val {m : Mi D} {ms : Mi (List Ag)} (h1 : DE X W p1 G e m) (h2 : DG X W p2 G sh es ms) (hs : starEach (e :: es) X.env = (false, eval e X.env) :: starEach es X.env := by rfl) : DG X W (p1 && (p2 && true)) G (.fz :: sh) (e :: es) (gVal m ms) := by
  obtain ⟨t1, pe1, l1⟩ := h1
  obtain ⟨t2, pe2, l2⟩ := h2
  refine ⟨_, pa_cons pe1 pe2 hs, fun F H A σ ρ Q wf en hp => ?_⟩
  refine l1.use wf en hp fun d1 ρ1 x H1 F1 A1 s1 wf1 en1 r1 _ hp => ?_
  refine l2 _ _ _ _ _ _ wf1 en1 ?_
  unfold bnd at hp
  cases e : ms ρ1 with
  | ok xs ρ2 =>
    rw [e] at hp
    exact fun vs H2 F2 A2 s2 wf2 en2 r2 pp => hp _ H2 F2 A2 s2 wf2 en2 (.val (r1.mono (s2.fut wf1)) r2) fun q => pp (Bool.and_eq_true_iff.mp q).1
  | exc x ρ2 =>
    rw [e] at hp
    exact fun cls dd H2 F2 A2 s2 wf2 en2 r2 pp => hp cls dd H2 F2 A2 s2 wf2 en2 r2 fun q => pp (Bool.and_eq_true_iff.mp q).1
  | bad => rw [e] at hp; exact hp
theorem dg_own (i : Nat) {x : Str} {ms : Mi (List Ag)} (hG : G[i]? = some s) (hN : X.N[i]? = some x) (hv : Vis X.env.scope x) (h2 : DG X W p2 G sh es ms) (hs : starEach (.Name x pos :: es) X.env = (false, eval (.Name x pos) X.env) :: starEach es X.env := by rfl)
    (hd : (x == ("__debug__" : Str)) = false := by decide) (hcd : (x == ("__classdict__" : Str)) = false := by decide) : DG X W (p2 && true) G (s :: sh) (.Name x pos :: es) (gOwn i ms) := by
  obtain ⟨t2, pe2, l2⟩ := h2
  refine ⟨_, pa_cons (pe_var hN hv hd hcd) pe2 hs, fun F H A σ ρ Q wf en hp => ?_⟩
  unfold gOwn at hp
  split at hp
  rotate_left
  · exact hp.elim
  rename_i d ed
  obtain ⟨v, B, e1, o, _⟩ := en.get hG ed
  refine ⟨v, e1, l2 _ _ _ _ _ _ wf en ?_⟩
  unfold bnd at hp
  cases e : ms ρ with
  | ok xs ρ2 =>
    rw [e] at hp
    exact fun vs H2 F2 A2 s2 wf2 en2 r2 pp => hp _ H2 F2 A2 s2 wf2 en2 (.own hG (.inl rfl) e1 r2) fun q => pp (Bool.and_eq_true_iff.mp q).1
  | exc x ρ2 =>
    rw [e] at hp
    exact fun cls dd H2 F2 A2 s2 wf2 en2 r2 pp => hp cls dd H2 F2 A2 s2 wf2 en2 r2 fun q => pp (Bool.and_eq_true_iff.mp q).1
  | bad => rw [e] at hp; exact hp
theorem dg_ownA (i : Nat) {x : Str} {u : V} {ms : Mi (List Ag)} (hG : G[i]? = some (.at_ u s)) (hN : X.N[i]? = some x) (hv : Vis X.env.scope x) (h2 : DG X W p2 G sh es ms) (hs : starEach (.Name x pos :: es) X.env = (false, eval (.Name x pos) X.env) :: starEach es X.env := by rfl)
    (hd : (x == ("__debug__" : Str)) = false := by decide) (hcd : (x == ("__classdict__" : Str)) = false := by decide) : DG X W (p2 && true) G (s :: sh) (.Name x pos :: es) (gOwn i ms) := by
  obtain ⟨t2, pe2, l2⟩ := h2
  refine ⟨_, pa_cons (pe_var hN hv hd hcd) pe2 hs, fun F H A σ ρ Q wf en hp => ?_⟩
  unfold gOwn at hp
  split at hp
  rotate_left
  · exact hp.elim
  rename_i d ed
  obtain ⟨v, B, e1, o, _⟩ := en.get hG ed
  have ev : v = u := o.1
  refine ⟨v, e1, l2 _ _ _ _ _ _ wf en ?_⟩
  unfold bnd at hp
  cases e : ms ρ with
  | ok xs ρ2 =>
    rw [e] at hp
    exact fun vs H2 F2 A2 s2 wf2 en2 r2 pp => hp _ H2 F2 A2 s2 wf2 en2 (.own hG (.inr (by rw [ev])) e1 r2) fun q => pp (Bool.and_eq_true_iff.mp q).1
  | exc x ρ2 =>
    rw [e] at hp
    exact fun cls dd H2 F2 A2 s2 wf2 en2 r2 pp => hp cls dd H2 F2 A2 s2 wf2 en2 r2 fun q => pp (Bool.and_eq_true_iff.mp q).1
  | bad => rw [e] at hp; exact hp
end
end DM
/-! DmG: calls of defs. -/
namespace DM
open PySem PySem.Spec PyProof.Rows L2
variable [LamT]

section
variable {X : Cx} {W : WX} {p p1 p2 p3 : Bool} {G : List Sh} {e a b c : Expr} {es : List Expr} {kws : List Keyword} {q pos : Pos} {F F1 : FS} {H H1 : Hp} {A A1 : List Addr} {σ : L2.St} {ρ ρ1 : Env} {s sr : Sh} {sh : List Sh} {k : Nat} {f : Addr} {fd : FuncData} {ps ks : List Str} {sp : Sp} {x : Str}
  {g : List Value → List Value → List Value} {gV : List V → List V → List V} {n : Nat}
theorem run_g {pins : List (Addr × Obj)} {s : Shared} {Q : VK} {us ws : List Value} {vs zs : List V} (Fn : FnG X.prog X.w X.K X.mg X.base k f fd ps sp) (hr : Room k X.A) (hgd : X.A.guards = some []) (tk : Takes X W) (hb : KBn X.K fd ps n ks g gV)
    (I : Inv X pins σ H s) (l1 : us.length = n) (l2 : ws.length = ks.length) (r : Vals vs us) (rz : Vals zs ws) (h : sp (gV vs zs) H Q (WE W σ)) : wpAny (model X.prog X.w) X.A (call (.ref f) us (ks.zip ws)) (EP X pins σ Q) X.xe s := by
  apply wpAny_call
  refine codeAny_mono (Fn.run X.A X.stack s H ⟨us, ks.zip ws⟩ (g us ws) (gV vs zs) Q (WE W σ) hr hgd I.env0 (hb.to s us ws I.kIn l1 l2) (hb.rel r rz) h) fun r s' hq => ?_
  cases r with
  | error e => exact passAt tk σ pins H s e s' I hq
  | ok fl =>
    cases fl with
    | ret u => exact I.after hq
    | next => exact hq.elim
    | brk => exact hq.elim
    | cont => exact hq.elim
def tCallG (n m : Nat) (sp : Sp) (gV : List V → List V → List V) (W : WX) (t tk : TA) : TE := fun σ H Q => t σ H fun vs H1 => tk σ H1 fun zs H2 => vs.length = n ∧ zs.length = m ∧ sp (gV vs zs) H2 Q (WE W σ)
theorem pe_callG (Fn : FnG X.prog X.w X.K X.mg X.base k f fd ps sp) (hr : Room k X.A) (hgd : X.A.guards = some []) (tk : Takes X W) (hb : KBn X.K fd ps n ks g gV) (hg : Gl X x) (hm : X.mg x = some (.ref f)) (hk : PySem.W.keepIn X.K (.ref f) = true) {t tkw : TA}
    (ha : PA X (e :: es) t) (hkw : PK X kws tkw)
    (hall : (backToKw pos (keywordEach kws X.env)).all (·.1.isSome) = true := by rfl) (hks : (backToKw pos (keywordEach kws X.env)).filterMap (·.1) = ks := by rfl) (hdb : (x == ("__debug__" : Str)) = false := by decide)
    (he : starEach (e :: es) X.env = (false, eval e X.env) :: starEach es X.env := by rfl)
    (hpl : ((backTo pos (starEach (e :: es) X.env)).any (·.1) || (backToKw pos (keywordEach kws X.env)).any (·.1.isNone)) = false := by rfl) :
    PE X (.Call (.Name x q) (e :: es) kws pos) (tCallG n ks.length sp gV W t tkw) := by
  constructor
  intro pins s σ H Q I h
  refine wpAny_Call_Name_kw (ld_glob I hg hm ?_ hdb)
  refine PySem.W.callWith_KW (h₀ := X.base) I.ok.mod.kin hk hall (thn (ha.run pos pins s σ H _ I h) ?_) hpl he
  rintro us s1 ⟨vs, H1, I1, r, h1⟩
  refine thn (hkw.run pos pins s1 σ H1 _ I1 h1) ?_
  rintro ws s2 ⟨zs, H2, I2, rz, l1, l2, h2⟩
  refine ⟨I2.kIn, ?_⟩
  rw [hks]
  exact run_g Fn hr hgd tk hb I2 (r.length.symm.trans l1) (rz.length.symm.trans l2) r rz h2
/-! ### the call by data -/
def perm {α : Type} (z : α) (π : List Nat) (xs : List α) : List α := π.map fun i => xs.getD i z
theorem vals_getD {vs : List V} {us : List Value} (r : Vals vs us) (i : Nat) : RelV (vs.getD i .non) (us.getD i .none) := by
  rw [List.getD_eq_getElem?_getD, List.getD_eq_getElem?_getD]
  cases e : vs[i]? with
  | none => rw [Vals.none_of r e]; rfl
  | some v =>
    obtain ⟨u, h1, h2⟩ := Vals.get r e
    rw [h1]; exact h2
theorem vals_perm {vs : List V} {us : List Value} (r : Vals vs us) : ∀ π : List Nat, Vals (perm .non π vs) (perm .none π us)
  | [] => .nil
  | i :: π => .cons (vals_getD r i) (vals_perm r π)
def DKw (X : Cx) (W : WX) (p : Bool) (G : List Sh) (ks : List Keyword) (m : Mi (List D)) : Prop := ∃ t, PK X ks t ∧ Tl X W p (fun F H vs ds => Rps X.K F H vs ds ∧ vs.length = ks.length) G t m
theorem dk_nil : DKw X W true G [] aNil := ⟨_, pk_nil, fun F H A σ ρ Q wf en hp => hp.fin0 wf en ⟨.nil, rfl⟩⟩
theorem rps_getD {K : PySem.W.Frag} : ∀ {vs ds}, Rps K F H vs ds → ∀ i : Nat, Rp K F H (vs.getD i .non) (ds.getD i .non)
  | _, _, .nil, _ => .v _
  | _, _, .cons h r, 0 => h
  | _, _, .cons h r, i + 1 => rps_getD r i
theorem rps_perm {K : PySem.W.Frag} {vs ds} (r : Rps K F H vs ds) : ∀ π : List Nat, Rps K F H (perm .non π vs) (perm .non π ds)
  | [] => .nil
  | i :: π => .cons (rps_getD r i) (rps_perm r π)
def fzs (n : Nat) : List Sh := List.replicate n .fz
theorem env_fz {K : PySem.W.Frag} (t : TbI F H) : ∀ {vs ds}, Rps K F H vs ds → EnvR K F H (fzs vs.length) (vs.map some) (ds.map some) []
  | _, _, .nil => ⟨rfl, t⟩
  | _, _, .cons h r => ⟨[], [], ⟨h, rfl⟩, env_fz t r, rfl⟩
theorem of_env_fz {K : PySem.W.Frag} : ∀ {vs : List V} {ds : List D} {A}, EnvR K F H (fzs vs.length) (vs.map some) (ds.map some) A → Rps K F H vs ds ∧ A = []
  | [], [], _, h => ⟨.nil, h.1⟩
  | [], _ :: _, _, h => by simp [EnvR, fzs] at h
  | _ :: _, [], _, h => by simp [EnvR, fzs, List.replicate_succ] at h
  | v :: vs, d :: ds, A, ⟨A1, A2, ⟨h1, e1⟩, h2, e⟩ => by
    obtain ⟨r, e2⟩ := of_env_fz (vs := vs) h2
    exact ⟨.cons h1 r, by rw [e, e1, e2]; rfl⟩
def eCall (m : Mf) (π : List Nat) (ma mk : Mi (List D)) : Mi D := bnd ma fun xs => bnd mk fun ys => fun ρ => match m (perm .non π (xs ++ ys)) with
  | .ok d _ => .ok d ρ
  | .exc x _ => .exc x ρ
  | .bad => .bad
theorem wf0 (h : Wf F H A) : Wf F H [] := ⟨h.f, fun _ z => (nomatch z), List.nodup_nil, fun _ z => (nomatch z)⟩
theorem call_fz {m : Mf} {vs ds} {Q : VK} (wf : Wf F H A) (en : EnvR X.K F H G σ ρ A) (r : Rps X.K F H vs ds) (hl : vs.length = sh.length) (hsh : sh = fzs sh.length)
    (hp : Pg X W p (Rp X.K) G σ F H A ρ (match m ds with | .ok d _ => .ok d ρ | .exc x _ => .exc x ρ | .bad => .bad) Q) : spD X.K X.mg sh .fz m vs H Q (WE W σ) := by
  have e0 := env_fz en.tb r
  rw [hl, ← hsh] at e0
  refine ⟨hl, F, [], ds, wf0 wf, e0, ?_⟩
  have step : ∀ {F' H'}, Stp F H [] F' H' [] → Wf F' H' [] → Pst F H F' H' := fun st w' =>
    ⟨st.f, fun b o e => st.keep b o e (by simp), st.tb, fun a ha => by
      rcases st.fn a ha with z | z | z
      · exact .inl z
      · cases z
      · exact .inr ⟨z, w'.f a ha⟩⟩
  cases e : m ds with
  | ok d ds' =>
    rw [e] at hp
    intro v H' F' A' B st w' en' o
    have eB : B = [] := o.2
    rw [hsh, ← hl] at en'
    by_cases hds : ds'.length = vs.length
    · have eA := (of_env_fz en').2
      subst eB; subst eA
      exact hp.fin wf en (step st w') o.1
    · have := en'.len
      simp at this
      omega
  | exc x ds' =>
    rw [e] at hp
    intro cls dd H' F' A' st w' en' xr
    rw [hsh, ← hl] at en'
    have eA := (of_env_fz en').2
    subst eA
    have ps := step st w'
    exact hp cls dd H' F' A ps.stp (ps.wf wf) (en.mono (ps.stay wf.a)) xr fun _ => ⟨ps, rfl, rfl⟩
  | bad => rw [e] at hp; exact hp
theorem perm_len {α : Type} (z : α) (π : List Nat) (xs : List α) : (perm z π xs).length = π.length := by simp [perm]
theorem de_call {m : Mf} {π : List Nat} {ma mk : Mi (List D)} (Fn : FnG X.prog X.w X.K X.mg X.base k f fd ps (spD X.K X.mg sh .fz m)) (hr : Room k X.A) (hgd : X.A.guards = some []) (tk : Takes X W)
    (hb : KBn X.K fd ps n ks (fun us ws => perm .none π (us ++ ws)) (fun vs zs => perm .non π (vs ++ zs))) (hg : Gl X x) (hm : X.mg x = some (.ref f)) (hk : PySem.W.keepIn X.K (.ref f) = true)
    (hsh : sh = fzs π.length) (ha : DA X W p1 G (e :: es) ma) (hkw : DKw X W p2 G kws mk)
    (hn : (e :: es).length = n) (hn2 : kws.length = ks.length)
    (hall : (backToKw pos (keywordEach kws X.env)).all (·.1.isSome) = true := by rfl) (hks : (backToKw pos (keywordEach kws X.env)).filterMap (·.1) = ks := by rfl) (hdb : (x == ("__debug__" : Str)) = false := by decide)
    (he : starEach (e :: es) X.env = (false, eval e X.env) :: starEach es X.env := by rfl)
    (hpl : ((backTo pos (starEach (e :: es) X.env)).any (·.1) || (backToKw pos (keywordEach kws X.env)).any (·.1.isNone)) = false := by rfl) :
    DE X W (p1 && (p2 && true)) G (.Call (.Name x q) (e :: es) kws pos) (eCall m π ma mk) := by
  obtain ⟨t1, pe1, l1⟩ := ha
  obtain ⟨t2, pe2, l2⟩ := hkw
  refine ⟨_, pe_callG Fn hr hgd tk hb hg hm hk pe1 pe2 hall hks hdb he hpl, fun F H A σ ρ Q wf en hp => ?_⟩
  unfold eCall at hp
  refine l1 _ _ _ _ _ _ wf en ?_
  unfold bnd at hp
  cases e1 : ma ρ with
  | bad => rw [e1] at hp; exact hp
  | exc x ρ1 =>
    rw [e1] at hp
    exact fun cls dd H' F' A' st wf' en' r pp => hp cls dd H' F' A' st wf' en' r fun q => pp (Bool.and_eq_true_iff.mp q).1
  | ok xs ρ1 =>
    rw [e1] at hp
    intro vs H1 F1 A1 s1 wf1 en1 r1 pp1
    have hp := Pg.after s1 pp1 hp
    simp only [Out.bind_ok] at hp
    refine l2 _ _ _ _ _ _ wf1 en1 ?_
    cases e2 : mk ρ1 with
    | bad => rw [e2] at hp; exact hp
    | exc x ρ2 =>
      rw [e2] at hp
      exact fun cls dd H' F' A' st wf' en' r pp => hp cls dd H' F' A' st wf' en' r fun q => pp (Bool.and_eq_true_iff.mp q).1
    | ok ys ρ2 =>
      rw [e2] at hp
      intro zs H2 F2 A2 s2 wf2 en2 r2 pp2
      have hp := Pg.after s2 pp2 hp
      simp only [Out.bind_ok] at hp
      refine ⟨r1.2.trans hn, r2.2.trans hn2, ?_⟩
      have r3 := rps_perm ((r1.1.mono (s2.fut wf1)).app r2.1) π
      exact call_fz wf2 en2 r3 (by rw [perm_len, hsh]; simp [fzs]) (by rw [hsh]; simp [fzs]) hp
def callOut (m : Mf) (xs : List Ag) : Mi D := fun ρ => match fetch xs ρ with
  | none => .bad
  | some r => match m r.1 with
    | .ok d ds => (match putBack xs ds r.2 with | some ρ' => .ok d ρ' | none => .bad)
    | .exc x ds => (match putBack xs ds r.2 with | some ρ' => .exc x ρ' | none => .bad)
    | .bad => .bad
def eCallG (m : Mf) (ms : Mi (List Ag)) : Mi D := bnd ms fun xs => callOut m xs
theorem Wf.app {C : List Addr} (h : Wf F H C) (n : A.Nodup) (d : ∀ a ∈ A, a ∉ C) (f : ∀ a ∈ A, ¬ F a) (t : ∀ a ∈ A, Nt (H a)) : Wf F H (C ++ A) :=
  ⟨h.f, fun a ha => (List.mem_append.mp ha).elim (h.a a) (t a), List.nodup_append.mpr ⟨h.nd, n, fun a ha b hb e => d b hb (e ▸ ha)⟩, fun a ha => (List.mem_append.mp ha).elim (h.ap a) (f a)⟩
theorem call_own {m : Mf} {vs : List V} {xs : List Ag} (wf : Wf F H A) (en : EnvR X.K F H G σ ρ A) (r : AgR X.K F H G σ sh vs xs) {Q : VK}
    (hp : PgO X W false sr G σ F H A ρ (callOut m xs ρ) Q) : spD X.K X.mg sh sr m vs H Q (WE W σ) := by
  unfold callOut at hp
  cases ef : fetch xs ρ with
  | none => rw [ef] at hp; exact hp.elim
  | some z =>
    obtain ⟨ds, ρ1⟩ := z
    rw [ef] at hp
    obtain ⟨A1, A2, h1, h2, h3⟩ := gather r en ef
    have wfp := wf.perm h3
    have wf1 : Wf F H A1 := ⟨wfp.f, fun a ha => wfp.a a (List.mem_append_left _ ha), (List.nodup_append.mp wfp.nd).1, fun a ha => wfp.ap a (List.mem_append_left _ ha)⟩
    have dis := (List.nodup_append.mp wfp.nd).2.2
    have nd2 := (List.nodup_append.mp wfp.nd).2.1
    have i1 : ∀ a ∈ A1, a ∈ A := fun a ha => h3.mem_iff.mpr (List.mem_append_left _ ha)
    have i2 : ∀ a ∈ A2, a ∈ A := fun a ha => h3.mem_iff.mpr (List.mem_append_right _ ha)
    have rest : ∀ {F' H' C}, Stp F H A1 F' H' C → Wf F' H' C → EnvR X.K F' H' G σ ρ1 A2 ∧ Wf F' H' (C ++ A2) ∧ ∀ A3 : List Addr, (∀ b ∈ A3, b ∈ C ++ A2) → Stp F H A F' H' A3 := fun {F' H' C} st w' => by
      have n1 : ∀ a ∈ A2, Nt (H a) := fun a ha => wfp.a a (List.mem_append_right _ ha)
      have kp : ∀ a ∈ A2, ∀ o, H a = some o → Kp o (H' a) := fun a ha o q => st.keep a o q fun z => dis a z a ha rfl
      have own1 : ∀ b ∈ C, b ∈ A ∨ H b = none := fun b hb => (st.own b hb).elim (fun q => .inl (i1 b q)) .inr
      refine ⟨h2.mono ⟨st.fut wf1, st.tb, fun a ha o q t => (kp a ha o q).eq t⟩, w'.app nd2 (fun a ha z => ?_) (fun a ha z => ?_) fun a ha => ?_, fun A3 h => ⟨st.f, fun b o e n => st.keep b o e fun z => n (i1 b z), fun b hb => ?_, fun b hb => ?_, st.tb⟩⟩
      · rcases st.own a z with q | q
        · exact dis a q a ha rfl
        · exact (n1 a ha).1 q
      · rcases st.fn a z with q | q | q
        · exact wfp.ap a (List.mem_append_right _ ha) q
        · exact dis a q a ha rfl
        · exact q (n1 a ha)
      · exact (n1 a ha).step fun o q => kp a ha o q
      · rcases List.mem_append.mp (h b hb) with q | q
        · exact own1 b q
        · exact .inl (i2 b q)
      · rcases st.fn b hb with q | q | q
        · exact .inl q
        · exact .inr (.inl (i1 b q))
        · exact .inr (.inr q)
    refine ⟨r.len, F, A1, ds, wf1, h1, ?_⟩
    cases e : m ds with
    | bad => simp only [e] at hp; exact hp
    | ok d ds' =>
      simp only [e] at hp
      cases ep : putBack xs ds' ρ1 with
      | none => rw [ep] at hp; exact hp.elim
      | some ρ2 =>
        rw [ep] at hp
        intro v H' F' A' B st w' en' o
        obtain ⟨en2, wf3, st3⟩ := rest st w'
        obtain ⟨A3, en3, pm⟩ := scatter (r.mono (st.fut wf1)) en2 en' ep
        have pm2 : (B ++ A3).Perm ((B ++ A') ++ A2) := by
          rw [List.append_assoc]
          exact List.Perm.append_left B pm
        exact hp v H' F' A3 B (st3 _ fun b hb => pm2.mem_iff.mp hb) (wf3.perm pm2.symm) en3 o fun z => nomatch z
    | exc x ds' =>
      simp only [e] at hp
      cases ep : putBack xs ds' ρ1 with
      | none => rw [ep] at hp; exact hp.elim
      | some ρ2 =>
        rw [ep] at hp
        intro cls dd H' F' A' st w' en' xr
        obtain ⟨en2, wf3, st3⟩ := rest st w'
        obtain ⟨A3, en3, pm⟩ := scatter (r.mono (st.fut wf1)) en2 en' ep
        exact hp cls dd H' F' A3 (st3 _ fun b hb => pm.mem_iff.mp hb) (wf3.perm pm.symm) en3 xr fun z => nomatch z
theorem PgO.of_fz {o : Out D} {Q : VK} (h : Pg X W false (Rp X.K) G σ F H A ρ o Q) : PgO X W false .fz G σ F H A ρ o Q := by
  cases o with
  | ok d ρ' =>
    intro v H' F' A' B st wf en o _
    have e : B = [] := o.2
    subst e
    exact h v H' F' A' st wf en o.1 fun z => nomatch z
  | exc x ρ' => exact h
  | bad => exact h
theorem de_callO {m : Mf} {ms : Mi (List Ag)} (Fn : FnG X.prog X.w X.K X.mg X.base k f fd ps (spD X.K X.mg sh .fz m)) (hr : Room k X.A) (hgd : X.A.guards = some []) (tk : Takes X W)
    (hb : KBn X.K fd ps n [] (fun us ws => us) (fun vs zs => vs)) (hg : Gl X x) (hm : X.mg x = some (.ref f)) (hk : PySem.W.keepIn X.K (.ref f) = true)
    (hl : sh.length = n) (ha : DG X W p1 G sh (e :: es) ms) (hdb : (x == ("__debug__" : Str)) = false := by decide)
    (he : starEach (e :: es) X.env = (false, eval e X.env) :: starEach es X.env := by rfl)
    (hpl : ((backTo pos (starEach (e :: es) X.env)).any (·.1) || (backToKw pos (keywordEach [] X.env)).any (·.1.isNone)) = false := by rfl) :
    DE X W false G (.Call (.Name x q) (e :: es) [] pos) (eCallG m ms) := by
  obtain ⟨t1, pe1, l1⟩ := ha
  refine ⟨_, pe_callG Fn hr hgd tk hb hg hm hk pe1 pk_nil rfl rfl hdb he hpl, fun F H A σ ρ Q wf en hp => ?_⟩
  refine l1 _ _ _ _ _ _ wf en ?_
  unfold eCallG bnd at hp
  cases e1 : ms ρ with
  | bad => rw [e1] at hp; exact hp
  | exc x ρ1 =>
    rw [e1] at hp
    exact fun cls dd H' F' A' st wf' en' r pp => hp cls dd H' F' A' st wf' en' r fun q => nomatch q
  | ok xs ρ1 =>
    rw [e1] at hp
    intro vs H1 F1 A1 s1 wf1 en1 r1 pp1
    have hp : Pg X W false (Rp X.K) G σ F1 H1 A1 ρ1 (callOut m xs ρ1) Q := Pg.after (p1 := false) s1 (fun z => nomatch z) (Pg.mono_p hp fun z => nomatch z)
    exact ⟨r1.len.trans hl, rfl, call_own wf1 en1 r1 (PgO.of_fz hp)⟩
end
end DM
/-! DmH: statements. -/
namespace DM
open PySem PySem.Spec PyProof.Rows L2
variable [LamT]

inductive Ctl where
  | nx | bk | ct
  | rt (d : D)
abbrev Ms := Mi Ctl

/-- G, forgetting some -/
inductive Wk : List Sh → List Sh → Prop
  | nil : Wk [] []
  | s {a G G'} : Wk G G' → Wk (a :: G) (a :: G')
  | a {a G G'} : Wk G G' → Wk (a :: G) (.any :: G')
theorem Wk.refl : ∀ G, Wk G G
  | [] => .nil
  | _ :: G => .s (Wk.refl G)
theorem Wk.all : ∀ G : List Sh, Wk G (List.replicate G.length .any)
  | [] => .nil
  | _ :: G => .a (Wk.all G)
section
variable {K : PySem.W.Frag} {F : FS} {H : Hp}
theorem EnvR.weak : ∀ {G G' : List Sh} {σ : L2.St} {ρ : Env} {A}, Wk G G' → EnvR K F H G σ ρ A → ∃ A', EnvR K F H G' σ ρ A' ∧ A'.Sublist A
  | [], [], σ, ρ, A, .nil, h => ⟨A, h, List.Sublist.refl _⟩
  | g :: G, g' :: G', σ, ρ, A, w, h => by
    have tl : Wk G G' ∧ (g' = g ∨ g' = .any) := by
      cases w with
      | s w => exact ⟨w, .inl rfl⟩
      | a w => exact ⟨w, .inr rfl⟩
    cases σ with
    | nil => simp [EnvR] at h
    | cons x σ =>
      cases ρ with
      | nil => simp [EnvR] at h
      | cons y ρ =>
        cases y with
        | none =>
          obtain ⟨A', a, b⟩ := EnvR.weak (A := A) tl.1 (show EnvR K F H G σ ρ A from by simpa only [EnvR] using h)
          exact ⟨A', by simpa only [EnvR] using a, b⟩
        | some d =>
          cases x with
          | none => simp [EnvR] at h
          | some v =>
            obtain ⟨A1, A2, h1, h2, e⟩ := h
            obtain ⟨A', a, b⟩ := EnvR.weak tl.1 h2
            rcases tl.2 with q | q
            · rw [q, e]
              exact ⟨A1 ++ A', ⟨A1, A', h1, a, rfl⟩, List.Sublist.append_left b A1⟩
            · rw [q, e]
              exact ⟨A', ⟨[], A', rfl, a, rfl⟩, b.trans (List.sublist_append_right A1 A2)⟩
theorem Wf.sub {A A' : List Addr} (h : Wf F H A) (s : A'.Sublist A) : Wf F H A' := ⟨h.f, fun a ha => h.a a (s.subset ha), h.nd.sublist s, fun a ha => h.ap a (s.subset ha)⟩
theorem Stp.sub {F' H' A A' A2} (x : Stp F H A F' H' A') (s : A2.Sublist A') : Stp F H A F' H' A2 := ⟨x.f, x.keep, fun b hb => x.own b (s.subset hb), x.fn, x.tb⟩
theorem Wk.trans : ∀ {G1 G2 G3 : List Sh}, Wk G1 G2 → Wk G2 G3 → Wk G1 G3
  | _, _, _, .nil, .nil => .nil
  | _, _, _, .s x, .s y => .s (Wk.trans x y)
  | _, _, _, .s x, .a y => .a (Wk.trans x y)
  | _, _, _, .a x, .s y => .a (Wk.trans x y)
  | _, _, _, .a x, .a y => .a (Wk.trans x y)
end

/-- the ends of a block: the shape of what is returned; the slots at a return, a break, a continue, where something is raised -/
structure SC where
  sr : Sh
  Gr : List Sh
  Gb : List Sh
  Gc : List Sh
  Gx : List Sh

def PgS (X : Cx) (W : WX) (C : SC) (G' : List Sh) (F : FS) (H : Hp) (A : List Addr) (o : Out Ctl) (E : Ends) : Prop :=
  match o with
  | .ok .nx ρ' => ∀ σ' H' F' A', Stp F H A F' H' A' → Wf F' H' A' → EnvR X.K F' H' G' σ' ρ' A' → E.nx σ' H'
  | .ok .bk ρ' => ∀ σ' H' F' A', Stp F H A F' H' A' → Wf F' H' A' → EnvR X.K F' H' C.Gb σ' ρ' A' → E.bk σ' H'
  | .ok .ct ρ' => ∀ σ' H' F' A', Stp F H A F' H' A' → Wf F' H' A' → EnvR X.K F' H' C.Gc σ' ρ' A' → E.ct σ' H'
  | .ok (.rt d) ρ' => ∀ v σ' H' F' A' B, Stp F H A F' H' (B ++ A') → Wf F' H' (B ++ A') → EnvR X.K F' H' C.Gr σ' ρ' A' → Ow X.K F' H' C.sr v d B → E.rt v H'
  | .exc x ρ' => ∀ cls dd σ' H' F' A', Stp F H A F' H' A' → Wf F' H' A' → EnvR X.K F' H' C.Gx σ' ρ' A' → XR X.K X.mg F' H' x cls dd → W cls dd σ' H'
  | .bad => False
def TlS (X : Cx) (W : WX) (C : SC) (G : List Sh) (t : TS) (m : Ms) (G' : List Sh) : Prop :=
  ∀ F H A σ ρ E, Wf F H A → EnvR X.K F H G σ ρ A → PgS X W C G' F H A (m ρ) E → t E σ H
def DS (X : Cx) (W : WX) (C : SC) (G : List Sh) (st : Stmt) (m : Ms) (G' : List Sh) : Prop := ∃ t, PS X st t ∧ TlS X W C G t m G'
def DSs (X : Cx) (W : WX) (C : SC) (G : List Sh) (st : List Stmt) (m : Ms) (G' : List Sh) : Prop := ∃ t, PSs X st t ∧ TlS X W C G t m G'

def sNil : Ms := ret .nx
def sSeq (m n : Ms) : Ms := fun ρ => match m ρ with
  | .ok .nx ρ1 => n ρ1
  | o => o

section
variable {X : Cx} {W : WX} {C : SC} {p p1 p2 p3 : Bool} {G G1 G2 G' : List Sh} {e a b c : Expr} {es : List Expr} {pos : Pos} {F F1 : FS} {H H1 : Hp} {A A1 : List Addr} {σ : L2.St} {ρ ρ1 : Env} {s : Sh} {st : Stmt} {sts rest : List Stmt}
theorem PgS.after {o : Out Ctl} {E : Ends} (s : Stp F H A F1 H1 A1) (h : PgS X W C G' F H A o E) : PgS X W C G' F1 H1 A1 o E := by
  cases o with
  | ok c ρ' =>
    cases c with
    | nx => exact fun σ' H' F' A' st => h σ' H' F' A' (s.trans st)
    | bk => exact fun σ' H' F' A' st => h σ' H' F' A' (s.trans st)
    | ct => exact fun σ' H' F' A' st => h σ' H' F' A' (s.trans st)
    | rt d => exact fun v σ' H' F' A' B st => h v σ' H' F' A' B (s.trans st)
  | exc x ρ' => exact fun cls dd σ' H' F' A' st => h cls dd σ' H' F' A' (s.trans st)
  | bad => exact h
theorem dss_nil : DSs X W C G [] sNil G := ⟨_, pss_nil, fun F H A σ ρ E wf en hp => hp σ H F A .refl wf en⟩
theorem seq_run {t u : TS} {m n : Ms} (h1 : TlS X W C G t m G1) (h2 : TlS X W C G1 u n G') : TlS X W C G (tSeq t u) (sSeq m n) G' := by
  intro F H A σ ρ E wf en hp
  refine h1 F H A σ ρ _ wf en ?_
  unfold sSeq at hp
  cases e : m ρ with
  | ok c ρ' =>
    rw [e] at hp
    cases c with
    | nx => exact fun σ' H' F' A' st wf' en' => h2 F' H' A' σ' ρ' E wf' en' (PgS.after st hp)
    | bk => exact hp
    | ct => exact hp
    | rt d => exact hp
  | exc x ρ' => rw [e] at hp; exact hp
  | bad => rw [e] at hp; exact hp
theorem dss_cons {m n : Ms} (h1 : DS X W C G st m G1) (h2 : DSs X W C G1 sts n G') : DSs X W C G (st :: sts) (sSeq m n) G' := by
  obtain ⟨t1, pe1, l1⟩ := h1
  obtain ⟨t2, pe2, l2⟩ := h2
  exact ⟨_, pss_cons pe1 pe2, seq_run l1 l2⟩
theorem dss_one {m : Ms} (h1 : DS X W C G st m G') : DSs X W C G [st] m G' := by
  obtain ⟨t1, pe1, l1⟩ := h1
  exact ⟨_, pss_one pe1, l1⟩
theorem TlS.wk {t : TS} {m : Ms} (h : TlS X W C G t m G1) (w : Wk G1 G2) : TlS X W C G t m G2 := by
  intro F H A σ ρ E wf en hp
  refine h F H A σ ρ E wf en ?_
  cases e : m ρ with
  | ok c ρ' =>
    rw [e] at hp
    cases c with
    | nx =>
      intro σ' H' F' A' st wf' en'
      obtain ⟨A2, en2, sb⟩ := en'.weak w
      exact hp σ' H' F' A2 (st.sub sb) (wf'.sub sb) en2
    | bk => exact hp
    | ct => exact hp
    | rt d => exact hp
  | exc x ρ' => rw [e] at hp; exact hp
  | bad => rw [e] at hp; exact hp
theorem DS.wk {m : Ms} (h : DS X W C G st m G1) (w : Wk G1 G2) : DS X W C G st m G2 := by
  obtain ⟨t, pe, l⟩ := h
  exact ⟨t, pe, l.wk w⟩
theorem DSs.wk {m : Ms} (h : DSs X W C G sts m G1) (w : Wk G1 G2) : DSs X W C G sts m G2 := by
  obtain ⟨t, pe, l⟩ := h
  exact ⟨t, pe, l.wk w⟩
theorem EnvR.freeze1 : ∀ {G : List Sh} {σ : L2.St} {ρ : Env} {A} {i : Nat} {s : Sh}, EnvR X.K F H G σ ρ A → G[i]? = some s → s.nf = true → A.Nodup → ∃ B A', EnvR X.K (fun a => F a ∨ a ∈ B) H (G.set i .fz) σ ρ A' ∧ A.Perm (B ++ A')
  | [], [], [], _, i, s, h, e, _, _ => by simp at e
  | g :: G, x :: σ, none :: ρ, A, 0, s, h, e, _, _ =>
    ⟨[], A, by simpa only [List.set, EnvR] using (show EnvR X.K F H G σ ρ A from by simpa only [EnvR] using h).mono (stay_f fun a h => .inl h), List.Perm.refl _⟩
  | g :: G, x :: σ, none :: ρ, A, i + 1, s, h, e, n, nd => by
    obtain ⟨B, A', h1, h2⟩ := EnvR.freeze1 (i := i) (A := A) (show EnvR X.K F H G σ ρ A from by simpa only [EnvR] using h) (by simpa using e) n nd
    exact ⟨B, A', by simpa only [List.set, EnvR] using h1, h2⟩
  | g :: G, some v :: σ, some d :: ρ, A, 0, s, ⟨A1, A2, h1, h2, eA⟩, e, n, nd => by
    simp at e; subst e
    refine ⟨A1, A2, ⟨[], A2, ⟨h1.freeze n (fun a h => .inl h) fun b hb => .inr hb, rfl⟩, h2.mono (stay_f fun a h => .inl h), rfl⟩, by rw [eA]⟩
  | g :: G, some v :: σ, some d :: ρ, A, i + 1, s, ⟨A1, A2, h1, h2, eA⟩, e, n, nd => by
    rw [eA] at nd
    obtain ⟨B, A', g1, g2⟩ := EnvR.freeze1 (i := i) h2 (by simpa using e) n (List.nodup_append.mp nd).2.1
    refine ⟨B, A1 ++ A', ⟨A1, A', h1.mono (stay_f fun a h => .inl h), g1, rfl⟩, ?_⟩
    rw [eA]
    refine (List.Perm.append_left A1 g2).trans ?_
    rw [← List.append_assoc, ← List.append_assoc]
    exact List.Perm.append_right A' List.perm_append_comm
  | [], [], _ :: _, _, _, _, h, _, _, _ => by simp [EnvR] at h
  | [], _ :: _, _, _, _, _, h, _, _, _ => by simp [EnvR] at h
  | _ :: _, [], _, _, _, _, h, _, _, _ => by simp [EnvR] at h
  | _ :: _, _ :: _, [], _, _, _, h, _, _, _ => by simp [EnvR] at h
  | _ :: _, none :: _, some _ :: _, _, _, _, h, _, _, _ => by simp [EnvR] at h
theorem TlS.freeze {t : TS} {m : Ms} (i : Nat) (hG : G[i]? = some s) (n : s.nf = true) (h : TlS X W C (G.set i .fz) t m G') : TlS X W C G t m G' := by
  intro F H A σ ρ E wf en hp
  obtain ⟨B, A', en', pm⟩ := en.freeze1 hG n wf.nd
  have wp := wf.perm pm
  have dis := (List.nodup_append.mp wp.nd).2.2
  have iB : ∀ b ∈ B, b ∈ A := fun b hb => pm.mem_iff.mpr (List.mem_append_left _ hb)
  have iA : ∀ b ∈ A', b ∈ A := fun b hb => pm.mem_iff.mpr (List.mem_append_right _ hb)
  have st : Stp F H A (fun a => F a ∨ a ∈ B) H A' := ⟨fun a h => .inl h, fun b o e _ => .inl e, fun b hb => .inl (iA b hb), fun b hb => hb.elim .inl fun z => .inr (.inl (iB b z)), id⟩
  refine h _ H A' σ ρ E ⟨fun a ha => ha.elim (wf.f a) fun z => (wf.a a (iB a z)).1, fun a ha => wf.a a (iA a ha), (List.nodup_append.mp wp.nd).2.1, fun a ha z => z.elim (wf.ap a (iA a ha)) fun z => dis a z a ha rfl⟩ en' (PgS.after st hp)
theorem DSs.freeze {m : Ms} (i : Nat) (hG : G[i]? = some s) (n : s.nf = true) (h : DSs X W C (G.set i .fz) sts m G') : DSs X W C G sts m G' := by
  obtain ⟨t, pe, l⟩ := h
  exact ⟨t, pe, l.freeze i hG n⟩

/-! ### simple statements -/
theorem Tl.useS {α β : Type} {R : Rel β α} {t : L2.St → Hp → (β → Hp → Prop) → Prop} {m : Mi α} {k : α → Ms} {E : Ends} {Q1 : β → Hp → Prop} (h1 : Tl X W p1 R G t m) (wf : Wf F H A) (en : EnvR X.K F H G σ ρ A) (wx : Wk G C.Gx)
    (h : PgS X W C G' F H A (bnd m k ρ) E)
    (hk : ∀ a ρ1 b H1 F1 A1, Wf F1 H1 A1 → EnvR X.K F1 H1 G σ ρ1 A1 → R F1 H1 b a → PgS X W C G' F1 H1 A1 (k a ρ1) E → Q1 b H1) : t σ H Q1 := by
  refine h1 F H A σ ρ Q1 wf en ?_
  unfold bnd at h
  cases e : m ρ with
  | ok a ρ' =>
    rw [e] at h
    exact fun b H' F' A' st wf' en' r pp => hk a ρ' b H' F' A' wf' en' r (PgS.after st h)
  | exc x ρ' =>
    rw [e] at h
    intro cls dd H' F' A' st wf' en' r pp
    obtain ⟨A2, en2, sb⟩ := en'.weak wx
    exact h cls dd σ H' F' A2 (st.sub sb) (wf'.sub sb) en2 r
  | bad => rw [e] at h; exact h
theorem TlO.useS {t : TE} {m : Mi D} {k : D → Ms} {E : Ends} {Q1 : VK} (h1 : TlO X W p1 s G t m) (wf : Wf F H A) (en : EnvR X.K F H G σ ρ A) (wx : Wk G C.Gx)
    (h : PgS X W C G' F H A (bnd m k ρ) E)
    (hk : ∀ d ρ1 v H1 F1 A1 B, Wf F1 H1 (B ++ A1) → EnvR X.K F1 H1 G σ ρ1 A1 → Ow X.K F1 H1 s v d B → PgS X W C G' F1 H1 (B ++ A1) (k d ρ1) E → Q1 v H1) : t σ H Q1 := by
  refine h1 F H A σ ρ Q1 wf en ?_
  unfold bnd at h
  cases e : m ρ with
  | ok a ρ' =>
    rw [e] at h
    exact fun v H' F' A' B st wf' en' r pp => hk a ρ' v H' F' A' B wf' en' r (PgS.after st h)
  | exc x ρ' =>
    rw [e] at h
    intro cls dd H' F' A' st wf' en' r pp
    obtain ⟨A2, en2, sb⟩ := en'.weak wx
    exact h cls dd σ H' F' A2 (st.sub sb) (wf'.sub sb) en2 r
  | bad => rw [e] at h; exact h
def setI (i : Nat) (d : D) : Ms := fun ρ => if i < ρ.length then .ok .nx (ρ.set i (some d)) else .bad
def sSet (i : Nat) (m : Mi D) : Ms := bnd m (setI i)
theorem set_fin {i : Nat} {d : D} {v : V} {E : Ends} {B : List Addr} (wf : Wf F H (B ++ A)) (en : EnvR X.K F H G σ ρ A) (o : Ow X.K F H s v d B) (hp : PgS X W C (G.set i s) F H (B ++ A) (setI i d ρ) E) : E.nx (σ.set i (some v)) H := by
  unfold setI at hp
  split at hp
  · rename_i hi
    have l := en.len
    obtain ⟨A', en', sub, nd, _⟩ := en.set (i := i) (s := s) (by omega) o
    obtain ⟨n1, n2, n3⟩ := List.nodup_append.mp wf.nd
    have all : ∀ b ∈ A', b ∈ B ++ A := fun b hb => (sub b hb).elim (fun z => List.mem_append_right _ z) fun z => List.mem_append_left _ z
    refine hp _ H F A' ⟨fun _ h => h, fun _ _ h _ => .inl h, fun b hb => .inl (all b hb), fun _ h => .inl h, id⟩ ⟨wf.f, fun a ha => wf.a a (all a ha), nd n2 n1 fun b hb hA => n3 b hb b hA rfl, fun a ha => wf.ap a (all a ha)⟩ en'
  · exact hp.elim
theorem ds_set {i : Nat} {x : Str} {q : Pos} {m : Mi D} (nd : X.N.Nodup) (hi : X.N[i]? = some x) (hx : Loc X.env.scope x) (he : DE X W p G e m) (wx : Wk G C.Gx) (hs : swapsWith e (some (.Name x q)) pos.line X.env = pure false := by rfl) (hf : X.fn x = true ∨ X.env.scope.names.lookup x = some .local := by first | exact .inl rfl | exact .inr rfl | assumption) :
    DS X W C G (.Assign [.Name x q] e pos) (sSet i m) (G.set i .fz) := by
  obtain ⟨t, pe, l⟩ := he
  refine ⟨_, ps_set nd hi hx pe hs hf, fun F H A σ ρ E wf en hp => ?_⟩
  exact l.useS wf en wx hp fun d ρ1 v H1 F1 A1 wf1 en1 r hp => set_fin (s := .fz) (B := []) wf1 en1 ⟨r, rfl⟩ hp
theorem ds_setO {i : Nat} {x : Str} {q : Pos} {m : Mi D} (nd : X.N.Nodup) (hi : X.N[i]? = some x) (hx : Loc X.env.scope x) (he : DO X W p s G e m) (wx : Wk G C.Gx) (hs : swapsWith e (some (.Name x q)) pos.line X.env = pure false := by rfl) (hf : X.fn x = true ∨ X.env.scope.names.lookup x = some .local := by first | exact .inl rfl | exact .inr rfl | assumption) :
    DS X W C G (.Assign [.Name x q] e pos) (sSet i m) (G.set i s) := by
  obtain ⟨t, pe, l⟩ := he
  refine ⟨_, ps_set nd hi hx pe hs hf, fun F H A σ ρ E wf en hp => ?_⟩
  exact l.useS wf en wx hp fun d ρ1 v H1 F1 A1 B wf1 en1 o hp => set_fin wf1 en1 o hp
def sRet (m : Mi D) : Ms := bnd m fun d => ret (.rt d)
theorem ds_ret {m : Mi D} (he : DE X W p G e m) (hsr : C.sr = .fz) (wx : Wk G C.Gx) (wr : Wk G C.Gr) : DS X W C G (.Return (some e) pos) (sRet m) G' := by
  obtain ⟨t, pe, l⟩ := he
  refine ⟨_, ps_ret pe, fun F H A σ ρ E wf en hp => ?_⟩
  refine l.useS wf en wx hp fun d ρ1 v H1 F1 A1 wf1 en1 r hp => ?_
  obtain ⟨A2, en2, sb⟩ := en1.weak wr
  exact hp v σ H1 F1 A2 [] (Stp.sub .refl sb) (wf1.sub sb) en2 (by rw [hsr]; exact ⟨r, rfl⟩)
theorem EnvR.shape {s : Sh} : ∀ {G : List Sh} {σ : L2.St} {ρ : Env} {A} {i : Nat}, EnvR X.K F H G σ ρ A → ρ[i]? = some none → EnvR X.K F H (G.set i s) σ ρ A
  | [], [], [], _, i, h, e => by simp at e
  | g :: G, x :: σ, none :: ρ, A, 0, h, _ => by simpa only [List.set, EnvR] using h
  | g :: G, x :: σ, some d :: ρ, A, 0, h, e => by simp at e
  | g :: G, x :: σ, none :: ρ, A, i + 1, h, e => by
    have h' := EnvR.shape (s := s) (i := i) (show EnvR X.K F H G σ ρ A from by simpa only [EnvR] using h) (by simpa using e)
    simpa only [List.set, EnvR] using h'
  | g :: G, some v :: σ, some d :: ρ, A, i + 1, ⟨A1, A2, h1, h2, eA⟩, e => ⟨A1, A2, h1, EnvR.shape (i := i) h2 (by simpa using e), eA⟩
  | [], [], _ :: _, _, _, h, _ => by simp [EnvR] at h
  | [], _ :: _, _, _, _, h, _ => by simp [EnvR] at h
  | _ :: _, [], _, _, _, h, _ => by simp [EnvR] at h
  | _ :: _, _ :: _, [], _, _, h, _ => by simp [EnvR] at h
  | _ :: _, none :: _, some _ :: _, _, _, h, _ => by simp [EnvR] at h
theorem EnvR.drop {i : Nat} {d : D} (en : EnvR X.K F H G σ ρ A) (hG : G[i]? = some s) (e : ρ[i]? = some (some d)) : ∃ v B A', σ[i]? = some (some v) ∧ Ow X.K F H s v d B ∧ EnvR X.K F H (G.set i .any) σ ρ A' ∧ A.Perm (B ++ A') := by
  obtain ⟨v, B, A', e1, o, en', pm⟩ := en.take hG e
  have l := en.len
  have hi : i < ρ.length := (List.getElem?_eq_some_iff.mp e).1
  have en2 := en'.shape (s := .any) (i := i) (by rw [List.getElem?_set_self hi])
  obtain ⟨A2, en3, pm2⟩ := en2.put (i := i) (s := .any) (v := v) (d := d) (B := []) (by rw [List.getElem?_set_self (by omega)]) (by rw [List.getElem?_set_self hi]) e1 rfl
  refine ⟨v, B, A2, e1, o, ?_, pm.trans (List.Perm.append_left B pm2.symm)⟩
  rw [List.set_set] at en3
  have : ρ.set i (some d) = ρ := by
    apply List.ext_getElem?
    intro j
    by_cases hj : i = j
    · subst hj; rw [List.getElem?_set_self hi, e]
    · rw [List.getElem?_set_ne hj]
  rw [this] at en3
  exact en3
/-! an owned dict stays from now on: it is locked -/
inductive Dsh : Sh → Prop
  | dct : Dsh (.dct .fz)
  | at_ {v s} : Dsh s → Dsh (.at_ v s)
theorem Dsh.ow {v : V} {d : D} {B : List Addr} {s : Sh} (c : Dsh s) (o : Ow X.K F H s v d B) : Ow X.K F H (.dct .fz) v d B := by
  induction c with
  | dct => exact o
  | at_ c ih => exact ih o.2
def sRetN : Ms := ret (.rt .non)
def sExp (m : Mi D) : Ms := bnd m fun _ => ret .nx
theorem ds_exp {m : Mi D} (he : DE X W p G e m) (wx : Wk G C.Gx) (hs : swapsWith e none pos.line X.env = pure false := by rfl) : DS X W C G (.Expr e pos) (sExp m) G := by
  obtain ⟨t, pe, l⟩ := he
  refine ⟨_, ps_expr pe hs, fun F H A σ ρ E wf en hp => ?_⟩
  exact l.useS wf en wx hp fun d ρ1 v H1 F1 A1 wf1 en1 r hp => hp σ H1 F1 A1 .refl wf1 en1
def sIf (c : Mi Bool) (m n : Ms) : Ms := bnd c fun k => if k = true then m else n
theorem ds_if {mc : Mi Bool} {m n : Ms} {sa sb : List Stmt} (hc : DT X W p G c mc) (ha : DSs X W C G sa m G') (hb : DSs X W C G sb n G') (wx : Wk G C.Gx) : DS X W C G (.If c sa sb pos) (sIf mc m n) G' := by
  obtain ⟨tc, pc, lc⟩ := hc
  obtain ⟨ta, pa, la⟩ := ha
  obtain ⟨tb, pb, lb⟩ := hb
  refine ⟨_, ps_if pc pa pb, fun F H A σ ρ E wf en hp => ?_⟩
  refine lc.useS wf en wx hp fun k ρ1 k' H1 F1 A1 wf1 en1 r hp => ?_
  cases r
  cases k with
  | true => exact iteT (la _ _ _ _ _ _ wf1 en1 hp)
  | false => exact iteF (lb _ _ _ _ _ _ wf1 en1 hp)
end
end DM
/-! DmI: targets, several assigned at once, op=, lists that are changed. -/
namespace DM
open PySem PySem.Spec PyProof.Rows L2
variable [LamT]

abbrev Mt := D → Env → Option Env
abbrev Mts := List D → Env → Option Env
def TlG (X : Cx) (G : List Sh) (t : TG) (m : Mt) (G2 : List Sh) (ws : List Nat) : Prop :=
  ∀ F H A σ ρ v d ρ' (Q : L2.St → Hp → Prop), Wf F H A → EnvR X.K F H G σ ρ A → Rp X.K F H v d → m d ρ = some ρ' → (∀ σ' H' F' A', Stp F H A F' H' A' → Wf F' H' A' → EnvR X.K F' H' G2 σ' ρ' A' → (∀ j, j ∉ ws → σ'[j]? = σ[j]?) → Q σ' H') → t v σ H Q
def TlGs (X : Cx) (G : List Sh) (t : TGs) (m : Mts) (G2 : List Sh) (ws : List Nat) : Prop :=
  ∀ F H A σ ρ vs ds ρ' (Q : L2.St → Hp → Prop), Wf F H A → EnvR X.K F H G σ ρ A → Rps X.K F H vs ds → m ds ρ = some ρ' → (∀ σ' H' F' A', Stp F H A F' H' A' → Wf F' H' A' → EnvR X.K F' H' G2 σ' ρ' A' → (∀ j, j ∉ ws → σ'[j]? = σ[j]?) → Q σ' H') → t vs σ H Q
def DTg (X : Cx) (G : List Sh) (tg : Expr) (m : Mt) (G2 : List Sh) (ws : List Nat) : Prop := ∃ t, PG X tg t ∧ TlG X G t m G2 ws
def DTs (X : Cx) (G : List Sh) (tgs : List Expr) (m : Mts) (G2 : List Sh) (ws : List Nat) : Prop := ∃ t, PGs X tgs t ∧ TlGs X G t m G2 ws

section
variable {X : Cx} {W : WX} {C : SC} {p p1 p2 p3 : Bool} {G G1 G2 G' : List Sh} {e a b c : Expr} {es : List Expr} {pos : Pos} {F F1 : FS} {H H1 : Hp} {A A1 : List Addr} {σ : L2.St} {ρ ρ1 : Env} {s : Sh} {st : Stmt} {sts rest : List Stmt}
theorem set_env {i : Nat} {d : D} {v : V} {B : List Addr} (wf : Wf F H (B ++ A)) (en : EnvR X.K F H G σ ρ A) (o : Ow X.K F H s v d B) (hi : i < ρ.length) :
    ∃ A', Stp F H (B ++ A) F H A' ∧ Wf F H A' ∧ EnvR X.K F H (G.set i s) (σ.set i (some v)) (ρ.set i (some d)) A' := by
  have l := en.len
  obtain ⟨A', en', sub, nd, _⟩ := en.set (i := i) (s := s) (by omega) o
  obtain ⟨n1, n2, n3⟩ := List.nodup_append.mp wf.nd
  have all : ∀ b ∈ A', b ∈ B ++ A := fun b hb => (sub b hb).elim (fun z => List.mem_append_right _ z) fun z => List.mem_append_left _ z
  exact ⟨A', ⟨fun _ h => h, fun _ _ h _ => .inl h, fun b hb => .inl (all b hb), fun _ h => .inl h, id⟩, ⟨wf.f, fun a ha => wf.a a (all a ha), nd n2 n1 fun b hb hA => n3 b hb b hA rfl, fun a ha => wf.ap a (all a ha)⟩, en'⟩
def gNm (i : Nat) : Mt := fun d ρ => if i < ρ.length then some (ρ.set i (some d)) else none
theorem dt_name (i : Nat) {x : Str} (nd : X.N.Nodup) (hi : X.N[i]? = some x) (hx : Loc X.env.scope x) (hf : X.fn x = true ∨ X.env.scope.names.lookup x = some .local := by first | exact .inl rfl | exact .inr rfl | assumption) : DTg X G (.Name x pos) (gNm i) (G.set i .fz) [i] := by
  refine ⟨_, pg_name nd hi hx hf, fun F H A σ ρ v d ρ' Q wf en r e k => ?_⟩
  unfold gNm at e
  split at e
  · cases e
    obtain ⟨A', h1, h2, h3⟩ := set_env (s := .fz) (B := []) wf en ⟨r, rfl⟩ (by assumption)
    exact k _ H F A' h1 h2 h3 fun j hj => List.getElem?_set_ne fun z => hj (by rw [z]; exact List.mem_singleton.mpr rfl)
  · cases e
def gsNil : Mts := fun ds ρ => match ds with
  | [] => some ρ
  | _ => none
def gsCons (m : Mt) (ms : Mts) : Mts := fun ds ρ => match ds with
  | d :: ds => (m d ρ).bind fun ρ1 => ms ds ρ1
  | [] => none
theorem dts_nil : DTs X G [] gsNil G [] := by
  refine ⟨_, pgs_nil, fun F H A σ ρ vs ds ρ' Q wf en r e k => ?_⟩
  unfold gsNil at e
  split at e
  · cases e; cases r; exact ⟨rfl, k σ H F A .refl wf en fun _ _ => rfl⟩
  · cases e
theorem dts_cons {m : Mt} {ms : Mts} {ws1 ws2 : List Nat} (h1 : DTg X G e m G1 ws1) (h2 : DTs X G1 es ms G2 ws2) (hs : (assignEach (e :: es) X.env).map (·.2) = assign e X.env :: (assignEach es X.env).map (·.2) := by rfl) : DTs X G (e :: es) (gsCons m ms) G2 (ws1 ++ ws2) := by
  obtain ⟨t1, pe1, l1⟩ := h1
  obtain ⟨t2, pe2, l2⟩ := h2
  refine ⟨_, pgs_cons pe1 pe2 hs, fun F H A σ ρ vs ds ρ' Q wf en r e k => ?_⟩
  unfold gsCons at e
  split at e
  · rename_i d ds
    obtain ⟨ρ1, e1, e2⟩ := Option.bind_eq_some_iff.mp e
    cases r with
    | cons r rs =>
      refine ⟨_, _, rfl, l1 F H A σ ρ _ _ _ _ wf en r e1 fun σ1 H1 F1 A1 st1 wf1 en1 o1 => ?_⟩
      exact l2 F1 H1 A1 σ1 ρ1 _ _ _ _ wf1 en1 (rs.mono (st1.fut wf)) e2 fun σ2 H2 F2 A2 st2 wf2 en2 o2 => k σ2 H2 F2 A2 (st1.trans st2) wf2 en2 fun j hj => (o2 j fun z => hj (List.mem_append_right _ z)).trans (o1 j fun z => hj (List.mem_append_left _ z))
  · cases e
def gTupM (n : Nat) (ms : Mts) : Mt := fun d ρ => match d with
  | .tup ds => if ds.length = n then ms ds ρ else none
  | .lst ds => if ds.length = n then ms ds ρ else none
  | _ => none
theorem PG.or {tg : Expr} {t u : TG} (h1 : PG X tg t) (h2 : PG X tg u) : PG X tg (fun v σ H Q => t v σ H Q ∨ u v σ H Q) :=
  ⟨fun pins s σ H v w Q I r h => h.elim (h1.run pins s σ H v w Q I r) (h2.run pins s σ H v w Q I r)⟩
theorem dt_tup {k n : Nat} {ms : Mts} {ws : List Nat} (hc : X.calm = true) (h : DTs X G es ms G2 ws) (hn : (assignEach es X.env).length = n := by rfl) (hst : (assignEach es X.env).findIdx? (·.1) = none := by rfl) : DTg X G (.Tuple es k pos) (gTupM n ms) G2 ws := by
  obtain ⟨t, pe, l⟩ := h
  refine ⟨_, PG.or (pg_tup hc pe hn hst) (pg_lst hc pe hn hst), fun F H A σ ρ v d ρ' Q wf en r e k => ?_⟩
  unfold gTupM at e
  split at e
  · split at e
    · cases r with
      | tup h r => exact .inl ⟨_, _, rfl, h.sq, by rw [r.length]; assumption, l F H A σ ρ _ _ _ _ wf en r e k⟩
    · cases e
  · split at e
    · cases r with
      | lst f h r => exact .inr ⟨_, _, rfl, SqL.of h, by rw [r.length]; assumption, l F H A σ ρ _ _ _ _ wf en r e k⟩
    · cases e
  · cases e
def setT (m : Mt) (d : D) : Ms := fun ρ => match m d ρ with
  | some ρ' => .ok .nx ρ'
  | none => .bad
def sAsg (m : Mi D) (mt : Mt) : Ms := bnd m fun d => setT mt d
theorem ds_asg {tg : Expr} {m : Mi D} {mt : Mt} {ws : List Nat} (he : DE X W p G e m) (ht : DTg X G tg mt G2 ws) (wx : Wk G C.Gx) (hs : swapsWithSole [tg] e pos.line X.env = pure false := by rfl) (hw : swappedStores [tg] e X.env = pure none := by rfl)
    (h1 : (assignEach [tg] X.env).map (·.2) = [assign tg X.env] := by rfl) : DS X W C G (.Assign [tg] e pos) (sAsg m mt) G2 := by
  obtain ⟨t, pe, l⟩ := he
  obtain ⟨t2, pe2, l2⟩ := ht
  refine ⟨_, ps_asg pe pe2 hs hw h1, fun F H A σ ρ E wf en hp => ?_⟩
  refine l.useS wf en wx hp fun d ρ1 v H1 F1 A1 wf1 en1 r hp => ?_
  unfold setT at hp
  cases e1 : mt d ρ1 with
  | none => rw [e1] at hp; exact hp.elim
  | some ρ' =>
    rw [e1] at hp
    exact l2 F1 H1 A1 σ ρ1 v d ρ' _ wf1 en1 r e1 fun σ' H' F' A' s w e _ => hp σ' H' F' A' s w e

/-! ### several at once; owned things among them -/
def PgA (X : Cx) (W : WX) (sh : List Sh) (G : List Sh) (σ : L2.St) (F : FS) (H : Hp) (A : List Addr) (o : Out (List D)) (Q : List V → Hp → Prop) : Prop :=
  match o with
  | .ok ds ρ' => ∀ vs H' F' A' B, Stp F H A F' H' (B ++ A') → Wf F' H' (B ++ A') → EnvR X.K F' H' G σ ρ' A' → EnvR X.K F' H' sh (vs.map some) (ds.map some) B → Q vs H'
  | .exc x ρ' => ∀ cls dd H' F' A', Stp F H A F' H' A' → Wf F' H' A' → EnvR X.K F' H' G σ ρ' A' → XR X.K X.mg F' H' x cls dd → W cls dd σ H'
  | .bad => False
def DAo (X : Cx) (W : WX) (G : List Sh) (sh : List Sh) (es : List Expr) (m : Mi (List D)) : Prop :=
  ∃ t, PA X es t ∧ ∀ F H A σ ρ Q, Wf F H A → EnvR X.K F H G σ ρ A → PgA X W sh G σ F H A (m ρ) Q → t σ H Q
theorem dao_nil : DAo X W G [] [] aNil := ⟨_, pa_nil, fun F H A σ ρ Q wf en hp => hp [] H F A [] .refl wf en ⟨rfl, en.tb⟩⟩
theorem dao_O {sh : List Sh} {m : Mi D} {ms : Mi (List D)} (h1 : DO X W p s G e m) (h2 : DAo X W G sh es ms) (hs : starEach (e :: es) X.env = (false, eval e X.env) :: starEach es X.env := by rfl) : DAo X W G (s :: sh) (e :: es) (aCons m ms) := by
  obtain ⟨t1, pe1, l1⟩ := h1
  obtain ⟨t2, pe2, l2⟩ := h2
  refine ⟨_, pa_cons pe1 pe2 hs, fun F H A σ ρ Q wf en hp => ?_⟩
  refine l1 F H A σ ρ _ wf en ?_
  unfold aCons bnd at hp
  cases e1 : m ρ with
  | bad => rw [e1] at hp; exact hp
  | exc x ρ1 => rw [e1] at hp; exact fun cls dd H' F' A' st wf' en' r _ => hp cls dd H' F' A' st wf' en' r
  | ok d ρ1 =>
    rw [e1] at hp
    simp only [Out.bind_ok] at hp
    intro v H1 F1 A1 B1 s1 wf1 en1 o1 _
    obtain ⟨n1, n2, n3⟩ := List.nodup_append.mp wf1.nd
    have wf1' := wf_cons wf1
    refine l2 F1 H1 A1 σ ρ1 _ wf1' en1 ?_
    -- what stands at B1 is kept by a step of the frame alone
    have keepB : ∀ {F2 H2 C}, Stp F1 H1 A1 F2 H2 C → Wf F2 H2 C → Stay F1 H1 B1 F2 H2 ∧ (∀ a ∈ B1, a ∉ C) ∧ (∀ a ∈ B1, ¬ F2 a) ∧ ∀ a ∈ B1, Nt (H2 a) := fun {F2 H2 C} s2 w2 => by
      have nn : ∀ a ∈ B1, Nt (H1 a) := fun a ha => wf1.a a (List.mem_append_left _ ha)
      have nA : ∀ a ∈ B1, a ∉ A1 := fun a ha z => n3 a ha a z rfl
      have kp : ∀ a ∈ B1, ∀ o, H1 a = some o → Kp o (H2 a) := fun a ha o q => s2.keep a o q (nA a ha)
      refine ⟨⟨s2.fut wf1', s2.tb, fun a ha o q t => (kp a ha o q).eq t⟩, fun a ha z => ?_, fun a ha z => ?_, fun a ha => (nn a ha).step fun o q => kp a ha o q⟩
      · exact (s2.own a z).elim (nA a ha) (nn a ha).1
      · exact (s2.fn a z).elim (wf1.ap a (List.mem_append_left _ ha)) fun z => z.elim (nA a ha) fun z => z (nn a ha)
    cases e2 : ms ρ1 with
    | bad => rw [e2] at hp; exact hp
    | exc x ρ2 =>
      rw [e2] at hp
      intro cls dd H2 F2 A2 s2 wf2 en2 xr
      have s1' : Stp F H A F1 H1 A1 := stp_cons s1
      exact hp cls dd H2 F2 A2 (s1'.trans s2) wf2 en2 xr
    | ok ds ρ2 =>
      rw [e2] at hp
      intro vs H2 F2 A2 B2 s2 wf2 en2 o2
      obtain ⟨sy, d1, d2, d3⟩ := keepB s2 wf2
      refine hp (v :: vs) H2 F2 A2 (B1 ++ B2) ?_ ?_ en2 ⟨B1, B2, o1.mono sy, o2, rfl⟩
      · have t := (stp_cons s1).trans s2
        refine ⟨t.f, t.keep, fun b hb => ?_, t.fn, t.tb⟩
        rw [List.append_assoc] at hb
        rcases List.mem_append.mp hb with z | z
        · exact s1.own b (List.mem_append_left _ z)
        · exact t.own b z
      · rw [List.append_assoc]
        exact ⟨wf2.f, fun a ha => (List.mem_append.mp ha).elim (d3 a) (wf2.a a), List.nodup_append.mpr ⟨n1, wf2.nd, fun a ha b hb z => d1 a ha (z ▸ hb)⟩, fun a ha => (List.mem_append.mp ha).elim (d2 a) (wf2.ap a)⟩
theorem DE.doz {m : Mi D} (h : DE X W p G e m) : DO X W p .fz G e m := by
  obtain ⟨t, pe, l⟩ := h
  refine ⟨t, pe, fun F H A σ ρ Q wf en hp => l F H A σ ρ Q wf en ?_⟩
  cases e : m ρ with
  | bad => rw [e] at hp; exact hp
  | exc x ρ1 => rw [e] at hp; exact hp
  | ok d ρ1 =>
    rw [e] at hp
    exact fun v H1 F1 A1 s1 wf1 en1 r pp => hp v H1 F1 A1 [] s1 wf1 en1 ⟨r, rfl⟩ fun q => ⟨(pp q).1, (pp q).2.1, (pp q).2.2, fun _ z => (nomatch z)⟩
def setAll : List Nat → List D → Env → Option Env
  | [], [], ρ => some ρ
  | i :: is, d :: ds, ρ => if i < ρ.length then setAll is ds (ρ.set i (some d)) else none
  | _, _, _ => none
def shAll : List Nat → List Sh → List Sh → List Sh
  | i :: is, s :: ss, G => shAll is ss (G.set i s)
  | _, _, G => G
def stAll : List Nat → List V → L2.St → L2.St
  | i :: is, v :: vs, σ => stAll is vs (σ.set i (some v))
  | _, _, σ => σ
theorem set_all : ∀ {is : List Nat} {sh : List Sh} {vs : List V} {ds : List D} {G : List Sh} {σ : L2.St} {ρ ρ' : Env} {A B}, Wf F H (B ++ A) → EnvR X.K F H G σ ρ A → EnvR X.K F H sh (vs.map some) (ds.map some) B → setAll is ds ρ = some ρ' →
    ∃ A', Stp F H (B ++ A) F H A' ∧ Wf F H A' ∧ EnvR X.K F H (shAll is sh G) (stAll is vs σ) ρ' A'
  | [], sh, vs, ds, G, σ, ρ, ρ', A, B, wf, en, o, e => by
    cases ds with
    | cons d ds => simp [setAll] at e
    | nil =>
      cases e
      cases vs with
      | cons v vs => cases sh <;> simp [EnvR] at o
      | nil =>
        cases sh with
        | cons s sh => simp [EnvR] at o
        | nil =>
          have eB : B = [] := o.1
          subst eB
          exact ⟨A, .refl, wf, en⟩
  | i :: is, sh, vs, ds, G, σ, ρ, ρ', A, B, wf, en, o, e => by
    cases ds with
    | nil => simp [setAll] at e
    | cons d ds =>
      cases vs with
      | nil => cases sh <;> simp [EnvR] at o
      | cons v vs =>
        cases sh with
        | nil => simp [EnvR] at o
        | cons s sh =>
          obtain ⟨B1, B2, o1, o2, eB⟩ := o
          subst eB
          unfold setAll at e
          split at e
          · have pm : (B1 ++ B2 ++ A).Perm (B2 ++ (B1 ++ A)) := by
              rw [← List.append_assoc]
              exact List.Perm.append_right A List.perm_append_comm
            have wf' := wf.perm pm
            obtain ⟨A1, s1, w1, en1⟩ := set_env (i := i) (wf_cons wf') en o1 (by assumption)
            obtain ⟨n1, n2, n3⟩ := List.nodup_append.mp wf'.nd
            have i1 : ∀ b ∈ A1, b ∈ B1 ++ A := fun b hb => (s1.own b hb).elim id fun z => absurd z (w1.a b hb).1
            have w2 : Wf F H (B2 ++ A1) := ⟨wf.f, fun a ha => (List.mem_append.mp ha).elim (fun z => wf'.a a (List.mem_append_left _ z)) (w1.a a), List.nodup_append.mpr ⟨n1, w1.nd, fun a ha b hb z => n3 a ha b (i1 b hb) z⟩, fun a ha => (List.mem_append.mp ha).elim (fun z => wf'.ap a (List.mem_append_left _ z)) (w1.ap a)⟩
            obtain ⟨A2, s3, w3, en3⟩ := set_all (is := is) w2 en1 o2 e
            refine ⟨A2, ?_, w3, en3⟩
            refine ⟨fun _ h => h, fun _ _ h _ => .inl h, fun b hb => ?_, fun _ h => .inl h, id⟩
            rcases s3.own b hb with z | z
            · refine .inl (pm.mem_iff.mpr ?_)
              rcases List.mem_append.mp z with q | q
              · exact List.mem_append_left _ q
              · exact List.mem_append_right _ (i1 b q)
            · exact absurd z (w3.a b hb).1
          · cases e
def setA (is : List Nat) (ds : List D) : Ms := fun ρ => match setAll is ds ρ with
  | some ρ' => .ok .nx ρ'
  | none => .bad
def sPar (is : List Nat) (m : Mi (List D)) : Ms := bnd m fun ds => setA is ds
theorem par_run {sh : List Sh} {is : List Nat} {ta : TA} {m : Mi (List D)} {E : Ends} {Q1 : List V → Hp → Prop} (l : ∀ F H A σ ρ Q, Wf F H A → EnvR X.K F H G σ ρ A → PgA X W sh G σ F H A (m ρ) Q → ta σ H Q) (wf : Wf F H A) (en : EnvR X.K F H G σ ρ A) (wx : Wk G C.Gx)
    (hp : PgS X W C (shAll is sh G) F H A (sPar is m ρ) E) (hl : ∀ (F : FS) (H : Hp) (B : List Addr) (vs : List V) (ds : List D), EnvR X.K F H sh (vs.map some) (ds.map some) B → ∀ H, E.nx (stAll is vs σ) H → Q1 vs H) : ta σ H Q1 := by
  refine l F H A σ ρ _ wf en ?_
  unfold sPar bnd at hp
  cases e1 : m ρ with
  | bad => rw [e1] at hp; exact hp
  | exc x ρ1 =>
    rw [e1] at hp
    intro cls dd H1 F1 A1 s1 wf1 en1 xr
    obtain ⟨A2, en2, sb⟩ := en1.weak wx
    exact hp cls dd σ H1 F1 A2 (s1.sub sb) (wf1.sub sb) en2 xr
  | ok ds ρ1 =>
    rw [e1] at hp
    simp only [Out.bind_ok] at hp
    intro vs H1 F1 A1 B s1 wf1 en1 o1
    refine hl F1 H1 B vs ds o1 H1 ?_
    unfold setA at hp
    cases e2 : setAll is ds ρ1 with
    | none => rw [e2] at hp; exact hp.elim
    | some ρ2 =>
      rw [e2] at hp
      obtain ⟨A2, s2, w2, en2⟩ := set_all wf1 en1 o1 e2
      exact hp _ H1 F1 A2 (s1.trans s2) w2 en2
theorem vs2 {sh : List Sh} {B : List Addr} {vs : List V} {ds : List D} {s1 s2 : Sh} (o : EnvR X.K F H [s1, s2] (vs.map some) (ds.map some) B) : ∃ v w, vs = [v, w] := by
  have l := o.len
  simp at l
  match vs, l with
  | [v, w], _ => exact ⟨v, w, rfl⟩
theorem ds_par2 {i j : Nat} {x y : Str} {px py pt pt2 : Pos} {kt k2 : Nat} {s1 s2 : Sh} {m : Mi (List D)} (hc : X.calm = true) (hN : X.N.Nodup) (hi : X.N[i]? = some x) (hj : X.N[j]? = some y) (hij : i ≠ j)
    (hx : X.env.scope.names.lookup x = some .local) (hy : X.env.scope.names.lookup y = some .local) (ha : DAo X W G [s1, s2] [a, b] m) (wx : Wk G C.Gx)
    (hw : swappedStores [.Tuple [.Name x px, .Name y py] kt pt] (.Tuple [a, b] k2 pt2) X.env = pure (some [x, y]))
    (hs : swapsWithSole [.Tuple [.Name x px, .Name y py] kt pt] (.Tuple [a, b] k2 pt2) pos.line X.env = pure false := by rfl) :
    DS X W C G (.Assign [.Tuple [.Name x px, .Name y py] kt pt] (.Tuple [a, b] k2 pt2) pos) (sPar [i, j] m) ((G.set i s1).set j s2) := by
  obtain ⟨t, pe, l⟩ := ha
  refine ⟨_, ps_par hc hN hi hj hij hx hy pe hw hs, fun F H A σ ρ E wf en hp => ?_⟩
  refine par_run l wf en wx hp fun F H B vs ds o H' q => ?_
  obtain ⟨v, w, rfl⟩ := vs2 (sh := []) o
  exact ⟨v, w, rfl, q⟩
end
end DM
/-! DmJ: what is walked; for, while. -/
namespace DM
open PySem PySem.Spec PyProof.Rows L2
variable [LamT]

def ItD (K : PySem.W.Frag) (F : FS) (H : Hp) (J : It) (ds : List D) : Prop :=
  ∀ F1 H1, Fut F H F1 H1 → (∀ a, F1 a → H1 a ≠ none) → ∀ i : Nat, (ds.length ≤ i → i ≤ ds.length → J.stop i H1) ∧
    ∀ d, ds[i]? = some d → J.go i H1 ∧ ∀ x H2, J.yld i H1 x H2 → ∃ F2, Pst F1 H1 F2 H2 ∧ Rp K F2 H2 x d
def DI (X : Cx) (W : WX) (p : Bool) (G : List Sh) (tg e : Expr) (m : Mi (List D)) : Prop := ∃ wi, PI X tg e wi ∧ Tl X W p (ItD X.K) G wi m

def itemsOf : D → Option (List D)
  | .lst xs => some xs
  | .tup xs => some xs
  | .scr ns => some (ns.map D.int)
  | .v (.str s) => some (s.cps.toList.map fun c => D.str ⟨#[c]⟩)
  | .dct kvs => some (kvs.map (·.1))
  | .dcT kvs => some (kvs.map (·.1))
  | _ => none
def iVal (m : Mi D) : Mi (List D) := bnd m fun x => lift (itemsOf x)

section
variable {X : Cx} {W : WX} {C : SC} {p p1 p2 p3 : Bool} {G G1 G2 G' Gh : List Sh} {e a b c tg : Expr} {es : List Expr} {pos q : Pos} {F F1 : FS} {H H1 : Hp} {A A1 : List Addr} {σ : L2.St} {ρ ρ1 : Env} {s : Sh} {st : Stmt} {sts rest : List Stmt}
theorem PI.or {w1 w2 : TI} (h1 : PI X tg e w1) (h2 : PI X tg e w2) : PI X tg e (fun σ H R => w1 σ H R ∨ w2 σ H R) :=
  ⟨fun pins s σ H R I h => h.elim (h1.run pins s σ H R I) (h2.run pins s σ H R I)⟩
theorem itd_lst {K : PySem.W.Frag} {q : Addr} {vs ds} (f : F q) (h : H q = some (.lst vs)) (r : Rps K F H vs ds) : ItD K F H (Itl K q) ds := by
  intro F1 H1 m nf i
  have h1 := m.l q vs f h
  refine ⟨fun hi _ => ⟨vs, SqL.of h1, by rw [r.length]; exact hi⟩, fun d e => ?_⟩
  obtain ⟨v, e1, r1⟩ := r.get e
  refine ⟨⟨vs, v, SqL.of h1, e1⟩, fun x H2 y => ?_⟩
  obtain ⟨rfl, y⟩ := y
  have := y vs (SqL.of h1)
  rw [e1] at this; cases this
  exact ⟨F1, Pst.refl, r1.mono m⟩
theorem itd_scr {K : PySem.W.Frag} {q : Addr} {ns : List Int} (h : LstF K F H q (ns.map V.int)) : ItD K F H (Itl K q) (ns.map D.int) := by
  intro F1 H1 m nf i
  have hq : SqL K H1 q (ns.map V.int) := (h.mono m).sq
  refine ⟨fun hi _ => ⟨_, hq, by rw [List.length_map]; rw [List.length_map] at hi; exact hi⟩, fun d e => ?_⟩
  obtain ⟨v, e1, r1⟩ := (Rps.ints (K := K) (F := F1) (H := H1) ns).get e
  refine ⟨⟨_, v, hq, e1⟩, fun x H2 y => ?_⟩
  obtain ⟨rfl, y⟩ := y
  have := y _ hq
  rw [e1] at this; cases this
  exact ⟨F1, Pst.refl, r1⟩
theorem itd_tup {K : PySem.W.Frag} {q : Addr} {vs ds} (h : TupF K F H q vs) (r : Rps K F H vs ds) : ItD K F H (Itt K q) ds := by
  intro F1 H1 m nf i
  have h1 := (h.mono m).sq
  refine ⟨fun hi _ => ⟨vs, h1, by rw [r.length]; exact hi⟩, fun d e => ?_⟩
  obtain ⟨v, e1, r1⟩ := r.get e
  refine ⟨⟨vs, v, h1, e1⟩, fun x H2 y => ?_⟩
  obtain ⟨rfl, y⟩ := y
  have := y vs h1
  rw [e1] at this; cases this
  exact ⟨F1, Pst.refl, r1.mono m⟩
theorem itd_str {K : PySem.W.Frag} {x : Str} : ItD K F H (Its x) (x.cps.toList.map fun c => D.str ⟨#[c]⟩) := by
  intro F1 H1 m nf i
  refine ⟨fun hi _ => ?_, fun d e => ?_⟩
  · show x.cps.size ≤ i
    simpa using hi
  · rw [List.getElem?_map] at e
    obtain ⟨c, e1, e2⟩ := Option.map_eq_some_iff.mp e
    subst e2
    have e1' : x.cps[i]? = some c := by simpa using e1
    refine ⟨?_, fun z H2 y => ?_⟩
    · show i < x.cps.size
      exact (Array.getElem?_eq_some_iff.mp e1').1
    · obtain ⟨rfl, c', h1, rfl⟩ := y
      rw [e1'] at h1; cases h1
      exact ⟨F1, Pst.refl, .v _⟩
def tNone (t : TE) : TE := fun σ H Q => t σ H fun x H1 => (∃ b, H1 b = none) → Q x H1
theorem pe_none {t : TE} (h : PE X e t) : PE X e (tNone t) := ⟨fun pins s σ H Q I q => thn (h.run pins s σ H _ I q) fun v s' ⟨w, H1, I1, rw', q⟩ =>
  ⟨w, H1, I1, rw', q ⟨s'.heap.objs.size, I1.hok.fresh (Nat.le_refl _)⟩⟩⟩
theorem RpK.get {K : PySem.W.Frag} : ∀ {kvs : List (Key × V)} {ds : List (D × D)} {i : Nat} {q : D × D}, RpK K F H kvs ds → ds[i]? = some q → ∃ k v, kvs[i]? = some (k, v) ∧ KeyD k q.1 ∧ Rp K F H v q.2
  | _, _, i, q, .nil, h => by simp at h
  | _, _, 0, q, .cons hk hv r, e => by simp at e; subst e; exact ⟨_, _, rfl, hk, hv⟩
  | _, _, i + 1, q, .cons hk hv r, e => by
    obtain ⟨k, v, a, b⟩ := RpK.get (i := i) (q := q) r (by simpa using e)
    exact ⟨k, v, by simpa using a, b⟩
theorem RpK.length {K : PySem.W.Frag} : ∀ {kvs : List (Key × V)} {ds : List (D × D)}, RpK K F H kvs ds → kvs.length = ds.length
  | _, _, .nil => rfl
  | _, _, .cons _ _ r => congrArg (· + 1) (RpK.length r)
theorem itd_keys {K : PySem.W.Frag} {q : Addr} {o : Obj} {kvs ds} (f : F q) (h : H q = some (.frz o (.dK kvs))) (r : RpK K F H kvs ds) : ItD K F H (Itk q o kvs) (ds.map (·.1)) := by
  intro F1 H1 m nf i
  have h1 := (m.k q _ f h).eq nt_frz
  have hl := r.length
  refine ⟨fun hi _ => ⟨h1, by rw [List.length_map] at hi; omega⟩, fun d e => ?_⟩
  rw [List.getElem?_map] at e
  obtain ⟨z, e1, rfl⟩ := Option.map_eq_some_iff.mp e
  obtain ⟨k, v, e2, hk, _⟩ := r.get e1
  refine ⟨⟨h1, (List.getElem?_eq_some_iff.mp e2).1⟩, fun x H2 y => ?_⟩
  obtain ⟨rfl, k', v', e3, rfl⟩ := y
  rw [e2] at e3; cases e3
  refine ⟨F1, Pst.refl, ?_⟩
  generalize z.1 = y at hk
  cases hk <;> exact .v _
theorem RpT.get {K : PySem.W.Frag} : ∀ {kvs : List (List Key × V)} {ds : List (D × D)} {i : Nat} {q : D × D}, RpT K F H kvs ds → ds[i]? = some q → ∃ k v dk, kvs[i]? = some (k, v) ∧ q.1 = .tup dk ∧ KeysD k dk ∧ k ≠ []
  | _, _, i, q, .nil, h => by simp at h
  | _, _, 0, q, .cons hk hv r, e => by simp at e; subst e; exact ⟨_, _, _, rfl, rfl, hk.1, hk.2⟩
  | _, _, i + 1, q, .cons hk hv r, e => by
    obtain ⟨k, v, dk, a, b⟩ := RpT.get (i := i) (q := q) r (by simpa using e)
    exact ⟨k, v, dk, by simpa using a, b⟩
theorem RpT.length {K : PySem.W.Frag} : ∀ {kvs : List (List Key × V)} {ds : List (D × D)}, RpT K F H kvs ds → kvs.length = ds.length
  | _, _, .nil => rfl
  | _, _, .cons _ _ r => congrArg (· + 1) (RpT.length r)
theorem keysD_rps0 {K : PySem.W.Frag} {F : FS} {H : Hp} : ∀ {ks : List Key} {dk : List D}, KeysD ks dk → Rps K F H (ks.map kV) dk
  | _, _, .nil => .nil
  | _, _, .cons (.int i) r => .cons (.v _) (keysD_rps0 r)
  | _, _, .cons (.str i) r => .cons (.v _) (keysD_rps0 r)
theorem itd_keysT {K : PySem.W.Frag} {q : Addr} {o : Obj} {kvs ds} (f : F q) (h : H q = some (.frz o (.dT kvs))) (r : RpT K F H kvs ds) : ItD K F H (Itkt q o kvs) (ds.map (·.1)) := by
  intro F1 H1 m nf i
  have h1 := (m.k q _ f h).eq nt_frz
  have hl := r.length
  refine ⟨fun hi _ => ⟨h1, by rw [List.length_map] at hi; omega⟩, fun d e => ?_⟩
  rw [List.getElem?_map] at e
  obtain ⟨z, e1, rfl⟩ := Option.map_eq_some_iff.mp e
  obtain ⟨k, v, dk, e2, ez, hk, ne⟩ := r.get e1
  refine ⟨⟨h1, (List.getElem?_eq_some_iff.mp e2).1⟩, fun x H2 y => ?_⟩
  obtain ⟨rfl, k', v', b, e3, rfl, hb⟩ := y
  rw [e2] at e3; cases e3
  refine ⟨fun a => F1 a ∨ a = b, ⟨fun a h => .inl h, fun b o e => .inl e, id, fun a h => h.imp id fun z => ?_⟩, ?_⟩
  · rw [z]
    exact ⟨nt_isT hb, by rw [hb]; exact fun z => nomatch z⟩
  · rw [ez]
    exact .tup (.ofKey (.inr rfl) hb (kl_map ne)) (keysD_rps0 hk)
theorem di_val {m : Mi D} (h : DE X W p G e m) : DI X W (p && true) G tg e (iVal m) := by
  obtain ⟨t, pe, l⟩ := h
  refine ⟨_, DM.PI.or (pi_list pe) (DM.PI.or (pi_tup pe) (DM.PI.or (pi_str pe) (pi_keys (pe_none pe)))), fun F H A σ ρ R wf en hp => ?_⟩
  unfold iVal bnd at hp
  have other : ∀ {Q1 : V → Hp → Prop}, (∀ d ρ1, m ρ = .ok d ρ1 → ∀ v H1 F1 A1, Wf F1 H1 A1 → EnvR X.K F1 H1 G σ ρ1 A1 → Rp X.K F1 H1 v d → Pg X W true (ItD X.K) G σ F1 H1 A1 ρ1 (lift (itemsOf d) ρ1) R → Q1 v H1) → t σ H Q1 := fun {Q1} k => by
    refine l F H A σ ρ Q1 wf en ?_
    cases em : m ρ with
    | bad => rw [em] at hp; exact hp
    | exc x ρ' =>
      rw [em] at hp
      exact fun cls dd H' F' A' st wf' en' r pp => hp cls dd H' F' A' st wf' en' r fun q => pp (Bool.and_eq_true_iff.mp q).1
    | ok d ρ' =>
      rw [em] at hp
      exact fun v H' F' A' st wf' en' r pp => k d ρ' em v H' F' A' wf' en' r (Pg.after st pp hp)
  cases em : m ρ with
  | bad => rw [em] at hp; exact hp.elim
  | exc x ρ' => exact .inl (other fun d ρ1 e => by rw [em] at e; cases e)
  | ok d ρ' =>
    have one : ∀ {Q1 : V → Hp → Prop}, (∀ v H1 F1 A1, Wf F1 H1 A1 → EnvR X.K F1 H1 G σ ρ' A1 → Rp X.K F1 H1 v d → Pg X W true (ItD X.K) G σ F1 H1 A1 ρ' (lift (itemsOf d) ρ') R → Q1 v H1) → t σ H Q1 := fun {Q1} k =>
      other fun d1 ρ1 e => by rw [em] at e; cases e; exact k
    cases d with
    | lst xs =>
      refine .inl (one fun v H1 F1 A1 wf1 en1 r hp => ?_)
      cases r with
      | lst f h r => exact ⟨_, rfl, ⟨_, SqL.of h⟩, hp.fin0 wf1 en1 (itd_lst f h r)⟩
    | scr xs =>
      refine .inl (one fun v H1 F1 A1 wf1 en1 r hp => ?_)
      cases r with
      | scr h => exact ⟨_, rfl, ⟨_, h.sq⟩, hp.fin0 wf1 en1 (itd_scr h)⟩
    | tup xs =>
      refine .inr (.inl (one fun v H1 F1 A1 wf1 en1 r hp => ?_))
      cases r with
      | tup h r => exact ⟨_, rfl, ⟨_, h.sq⟩, hp.fin0 wf1 en1 (itd_tup h r)⟩
    | dct kvs =>
      refine .inr (.inr (.inr (one fun v H1 F1 A1 wf1 en1 r hp => ?_)))
      cases r with
      | dK f h z r =>
        rintro ⟨b, hb⟩
        obtain ⟨o, ho⟩ := z ⟨b, fun y => wf1.f b y hb⟩
        exact ⟨_, o, rfl, .inl ⟨_, ho, hp.fin0 wf1 en1 (itd_keys f ho r)⟩⟩
    | dcT kvs =>
      refine .inr (.inr (.inr (one fun v H1 F1 A1 wf1 en1 r hp => ?_)))
      cases r with
      | dT f h z r =>
        rintro ⟨b, hb⟩
        obtain ⟨o, ho⟩ := z ⟨b, fun y => wf1.f b y hb⟩
        exact ⟨_, o, rfl, .inr ⟨_, ho, hp.fin0 wf1 en1 (itd_keysT f ho r)⟩⟩
    | ex c fs =>
      exact .inl (one fun v H1 F1 A1 wf1 en1 r hp => hp.elim)
    | v x =>
      cases x with
      | str z =>
        refine .inr (.inr (.inl (one fun v H1 F1 A1 wf1 en1 r hp => ?_)))
        cases r
        exact ⟨_, rfl, hp.fin0 wf1 en1 itd_str⟩
      | _ => exact .inl (one fun v H1 F1 A1 wf1 en1 r hp => hp.elim)
def big (i : Int) : Bool := decide (-(2 ^ 62) ≤ i) && decide (i < 2 ^ 62)
def rngOf : List D → Option (List D)
  | [.v (.int j)] => if big j then some ((List.range j.toNat).map fun (k : Nat) => D.int (0 + (k : Int))) else none
  | [.v (.int i), .v (.int j)] => if big i && big j then some ((List.range (j - i).toNat).map fun (k : Nat) => D.int (i + (k : Int))) else none
  | _ => none
def iRng (m : Mi (List D)) : Mi (List D) := bnd m fun xs => lift (rngOf xs)
theorem itd_rng {K : PySem.W.Frag} {lo : Int} {n : Nat} : ItD K F H (Itr lo n) ((List.range n).map fun (k : Nat) => D.int (lo + (k : Int))) := by
  intro F1 H1 m nf i
  refine ⟨fun hi _ => ?_, fun d e => ?_⟩
  · show n ≤ i
    simpa using hi
  · rw [List.getElem?_map] at e
    obtain ⟨c, e1, e2⟩ := Option.map_eq_some_iff.mp e
    subst e2
    obtain ⟨h1, h2⟩ := List.getElem?_eq_some_iff.mp e1
    rw [List.getElem_range] at h2
    rw [List.length_range] at h1
    subst h2
    refine ⟨h1, fun z H2 y => ?_⟩
    obtain ⟨rfl, rfl⟩ := y
    exact ⟨F1, Pst.refl, .v _⟩
theorem big_iff {i : Int} (h : big i = true) : -(2 ^ 62) ≤ i ∧ i < 2 ^ 62 := by
  obtain ⟨a, b⟩ := Bool.and_eq_true_iff.mp h
  exact ⟨of_decide_eq_true a, of_decide_eq_true b⟩
theorem rps_int1 {K : PySem.W.Frag} {vs : List V} {j : Int} (r : Rps K F H vs [.int j]) : vs = [.int j] := by
  cases r with
  | cons r r' => cases r; cases r'; rfl
theorem di_rng1 {m : Mi (List D)} (hg : Gl X "range") (hm : X.mg "range" = none) (ha : DA X W p G [a] m) (hs : starEach [a] X.env = [(false, eval a X.env)] := by rfl) : DI X W (p && true) G tg (.Call (.Name "range" q) [a] [] pos) (iRng m) := by
  obtain ⟨t, pe, l⟩ := ha
  refine ⟨_, pi_range1 hg hm pe hs, fun F H A σ ρ R wf en hp => ?_⟩
  refine l.use wf en hp fun ds ρ1 xs H1 F1 A1 s1 wf1 en1 r1 _ hp => ?_
  obtain ⟨z, e, hp⟩ := hp.lift
  have l1 := r1.1.length
  have l2 := r1.2
  unfold rngOf at e
  split at e
  · split at e
    · rename_i hb
      cases e
      have := rps_int1 r1.1
      subst this
      obtain ⟨b1, b2⟩ := big_iff hb
      exact ⟨_, rfl, b1, b2, hp.fin0 wf1 en1 itd_rng⟩
    · cases e
  · simp [l2] at l1
  · cases e
/-! ### for -/
def forL (mt : Mt) (body : Ms) : List D → Ms
  | [] => ret .nx
  | d :: ds => fun ρ => match mt d ρ with
    | none => .bad
    | some ρ1 => match body ρ1 with
      | .ok .nx ρ2 => forL mt body ds ρ2
      | .ok .ct ρ2 => forL mt body ds ρ2
      | .ok .bk ρ2 => .ok .nx ρ2
      | .ok (.rt d) ρ2 => .ok (.rt d) ρ2
      | .exc x ρ2 => .exc x ρ2
      | .bad => .bad
def sFor (mi : Mi (List D)) (mt : Mt) (body : Ms) : Ms := bnd mi fun ds => forL mt body ds
abbrev SC.loop (C : SC) (Gh : List Sh) : SC := { C with Gb := Gh, Gc := Gh }
theorem ds_for {mi : Mi (List D)} {mt : Mt} {mb : Ms} {ws : List Nat} {body : List Stmt} (ps : PassesOwn (model X.prog X.w) X.A X.env X.xe) (hc : X.calm = true) (hi : DI X W p G tg e mi) (ht : DTg X Gh tg mt G2 ws) (hb : DSs X W (C.loop Gh) G2 body mb Gh) (w0 : Wk G Gh) (wx : Wk G C.Gx)
    (hs : ∀ x, foldedSetIterable e X.env x = pure x := by intro _; rfl) : DS X W C G (.For tg e body [] pos) (sFor mi mt mb) Gh := by
  obtain ⟨wi, pi, li⟩ := hi
  obtain ⟨tt, pt, lt⟩ := ht
  obtain ⟨tb, pb, lb⟩ := hb
  refine ⟨_, ps_for ps hc pi pt pb hs, fun F H A σ ρ E wf en hp => ?_⟩
  refine li.useS wf en wx hp fun ds ρ1 J H1 F1 A1 wf1 en1 itd hp => ?_
  refine ⟨fun i m σ' H' => m = ds.length - i ∧ i ≤ ds.length ∧ ∃ F' A' ρ', Stp F1 H1 A1 F' H' A' ∧ Wf F' H' A' ∧ EnvR X.K F' H' Gh σ' ρ' A' ∧ PgS X W C Gh F' H' A' (forL mt mb (ds.drop i) ρ') E, ?_, ?_⟩
  · obtain ⟨A2, en2, sb⟩ := en1.weak w0
    exact ⟨_, rfl, Nat.zero_le _, F1, A2, ρ1, Stp.sub .refl sb, wf1.sub sb, en2, PgS.after (Stp.sub .refl sb) hp⟩
  · rintro i m σ' H' ⟨rfl, hle, F', A', ρ', s1, wf', en', hp'⟩
    obtain ⟨stop, go⟩ := itd F' H' (s1.fut wf1) wf'.f i
    by_cases hi : i < ds.length
    · have e0 : ds[i]? = some ds[i] := List.getElem?_eq_getElem hi
      obtain ⟨g, yl⟩ := go _ e0
      rw [List.drop_eq_getElem_cons hi] at hp'
      unfold forL at hp'
      refine .inr ⟨g, fun σ' H' => ∃ F' A' ρ', Stp F1 H1 A1 F' H' A' ∧ Wf F' H' A' ∧ EnvR X.K F' H' Gh σ' ρ' A' ∧ PgS X W C Gh F' H' A' (forL mt mb (ds.drop (i + 1)) ρ') E, fun σ2 H2 h => ⟨ds.length - (i + 1), by omega, rfl, hi, h⟩, fun x H2 y => ?_⟩
      obtain ⟨F2, s2, rx⟩ := yl x H2 y
      have wf2 := s2.wf wf'
      have en2 := en'.mono (s2.stay wf'.a)
      cases e1 : mt ds[i] ρ' with
      | none => simp only [e1] at hp'; exact hp'.elim
      | some ρ2 =>
        simp only [e1] at hp'
        refine lt F2 H2 A' σ' ρ' x ds[i] ρ2 _ wf2 en2 rx e1 fun σ3 H3 F3 A3 s3 wf3 en3 _ => ?_
        have s13 : Stp F1 H1 A1 F3 H3 A3 := (s1.trans s2.stp).trans s3
        have hp3 := PgS.after (s2.stp.trans s3) hp'
        refine lb F3 H3 A3 σ3 ρ2 _ wf3 en3 ?_
        cases e2 : mb ρ2 with
        | bad => simp only [e2] at hp3; exact hp3
        | exc x ρ3 => simp only [e2] at hp3; exact hp3
        | ok c ρ3 =>
          cases c with
          | nx => simp only [e2] at hp3; exact fun σ4 H4 F4 A4 s4 wf4 en4 => ⟨F4, A4, ρ3, s13.trans s4, wf4, en4, PgS.after s4 hp3⟩
          | ct => simp only [e2] at hp3; exact fun σ4 H4 F4 A4 s4 wf4 en4 => ⟨F4, A4, ρ3, s13.trans s4, wf4, en4, PgS.after s4 hp3⟩
          | bk => simp only [e2] at hp3; exact hp3
          | rt d => simp only [e2] at hp3; exact hp3
    · refine .inl ⟨stop (by omega) hle, ?_⟩
      rw [List.drop_eq_nil_of_le (by omega)] at hp'
      exact hp' σ' H' F' A' .refl wf' en'

/-! ### while: by a bound on its turns -/
def whL (c : Mi Bool) (body : Ms) : Nat → Ms
  | 0 => fun _ => .bad
  | n + 1 => fun ρ => match c ρ with
    | .ok true ρ1 => (match body ρ1 with
      | .ok .nx ρ2 => whL c body n ρ2
      | .ok .ct ρ2 => whL c body n ρ2
      | .ok .bk ρ2 => .ok .nx ρ2
      | .ok (.rt d) ρ2 => .ok (.rt d) ρ2
      | .exc x ρ2 => .exc x ρ2
      | .bad => .bad)
    | .ok false ρ1 => .ok .nx ρ1
    | .exc x ρ1 => .exc x ρ1
    | .bad => .bad
def sWh (fuel : Env → Nat) (c : Mi Bool) (body : Ms) : Ms := fun ρ => whL c body (fuel ρ) ρ
theorem ds_while {mc : Mi Bool} {mb : Ms} {fuel : Env → Nat} {body : List Stmt} (ps : PassesOwn (model X.prog X.w) X.A X.env X.xe) (hc : DT X W p Gh c mc) (hb : DSs X W (C.loop Gh) Gh body mb Gh) (w0 : Wk G Gh) (wx : Wk Gh C.Gx) : DS X W C G (.While c body [] pos) (sWh fuel mc mb) Gh := by
  obtain ⟨tc, pc, lc⟩ := hc
  obtain ⟨tb, pb, lb⟩ := hb
  refine ⟨_, ps_while ps pc pb, fun F H A σ ρ E wf en hp => ?_⟩
  refine ⟨fun m σ' H' => ∃ F' A' ρ', Stp F H A F' H' A' ∧ Wf F' H' A' ∧ EnvR X.K F' H' Gh σ' ρ' A' ∧ PgS X W C Gh F' H' A' (whL mc mb m ρ') E, ?_, ?_⟩
  · obtain ⟨A2, en2, sb⟩ := en.weak w0
    exact ⟨fuel ρ, F, A2, ρ, Stp.sub .refl sb, wf.sub sb, en2, PgS.after (Stp.sub .refl sb) hp⟩
  · rintro m σ1 H1 ⟨F1, A1, ρ1, s1, wf1, en1, hp1⟩
    cases m with
    | zero => exact hp1.elim
    | succ m =>
      unfold whL at hp1
      refine lc F1 H1 A1 σ1 ρ1 _ wf1 en1 ?_
      cases e : mc ρ1 with
      | bad => simp only [e] at hp1; exact hp1
      | exc x ρ2 =>
        simp only [e] at hp1
        intro cls dd H' F' A' st wf' en' r pp
        obtain ⟨A2, en2, sb⟩ := en'.weak wx
        exact hp1 cls dd σ1 H' F' A2 (st.sub sb) (wf'.sub sb) en2 r
      | ok k ρ2 =>
        intro k' H2 F2 A2 s2 wf2 en2 r pp
        cases r
        cases k with
        | false =>
          simp only [e] at hp1
          exact iteF (hp1 σ1 H2 F2 A2 s2 wf2 en2)
        | true =>
          simp only [e] at hp1
          refine iteT ⟨fun σ' H' => ∃ F' A' ρ', Stp F H A F' H' A' ∧ Wf F' H' A' ∧ EnvR X.K F' H' Gh σ' ρ' A' ∧ PgS X W C Gh F' H' A' (whL mc mb m ρ') E, fun σ' H' h => ⟨m, Nat.lt_succ_self m, h⟩, ?_⟩
          have s12 := s1.trans s2
          have hp3 := PgS.after s2 hp1
          refine lb F2 H2 A2 σ1 ρ2 _ wf2 en2 ?_
          cases e2 : mb ρ2 with
          | bad => simp only [e2] at hp3; exact hp3
          | exc x ρ3 => simp only [e2] at hp3; exact hp3
          | ok c ρ3 =>
            cases c with
            | nx => simp only [e2] at hp3; exact fun σ4 H4 F4 A4 s4 wf4 en4 => ⟨F4, A4, ρ3, s12.trans s4, wf4, en4, PgS.after s4 hp3⟩
            | ct => simp only [e2] at hp3; exact fun σ4 H4 F4 A4 s4 wf4 en4 => ⟨F4, A4, ρ3, s12.trans s4, wf4, en4, PgS.after s4 hp3⟩
            | bk => simp only [e2] at hp3; exact hp3
            | rt d => simp only [e2] at hp3; exact hp3
end
end DM
/-! DmK: list comprehensions. -/
namespace DM
open PySem PySem.Spec PyProof.Rows L2
variable [LamT]

/-! ### a block's own slots -/
def wipeE : List Nat → Env → Env
  | [], ρ => ρ
  | v :: vs, ρ => (wipeE vs ρ).set v none
def wipeG : List Nat → List Sh → List Sh
  | [], G => G
  | v :: vs, G => (wipeG vs G).set v .any
def restE : List Nat → Env → Env → Env
  | [], _, ρh => ρh
  | v :: vs, ρ, ρh => restE vs ρ (ρh.set v (ρ.getD v none))
section
variable {K : PySem.W.Frag} {F F' : FS} {H H' : Hp}
theorem EnvR.out1 : ∀ {G : List Sh} {σ : L2.St} {ρ : Env} {A} {i : Nat} {s : Sh}, EnvR K F H G σ ρ A → ∃ A', EnvR K F H (G.set i s) (σ.set i none) (ρ.set i none) A' ∧ A'.Sublist A
  | [], [], [], A, i, s, h => ⟨A, by simpa using h, List.Sublist.refl _⟩
  | g :: G, x :: σ, none :: ρ, A, 0, s, h => ⟨A, by simpa only [List.set, EnvR] using h, List.Sublist.refl _⟩
  | g :: G, x :: σ, none :: ρ, A, i + 1, s, h => by
    obtain ⟨A', a, b⟩ := EnvR.out1 (i := i) (s := s) (show EnvR K F H G σ ρ A from by simpa only [EnvR] using h)
    exact ⟨A', by simpa only [List.set, EnvR] using a, b⟩
  | g :: G, some v :: σ, some d :: ρ, A, 0, s, ⟨A1, A2, h1, h2, e⟩ => ⟨A2, by simpa only [List.set, EnvR] using h2, by rw [e]; exact List.sublist_append_right A1 A2⟩
  | g :: G, some v :: σ, some d :: ρ, A, i + 1, s, ⟨A1, A2, h1, h2, e⟩ => by
    obtain ⟨A', a, b⟩ := EnvR.out1 (i := i) (s := s) h2
    exact ⟨A1 ++ A', ⟨A1, A', h1, a, rfl⟩, by rw [e]; exact List.Sublist.append_left b A1⟩
  | [], [], _ :: _, _, _, _, h => by simp [EnvR] at h
  | [], _ :: _, _, _, _, _, h => by simp [EnvR] at h
  | _ :: _, [], _, _, _, _, h => by simp [EnvR] at h
  | _ :: _, _ :: _, [], _, _, _, h => by simp [EnvR] at h
  | _ :: _, none :: _, some _ :: _, _, _, _, h => by simp [EnvR] at h
theorem EnvR.wipe {G : List Sh} {σ : L2.St} {ρ : Env} {A} (h : EnvR K F H G σ ρ A) : ∀ own : List Nat, ∃ A', EnvR K F H (wipeG own G) (L2.wipe σ own) (wipeE own ρ) A' ∧ A'.Sublist A
  | [] => ⟨A, h, List.Sublist.refl _⟩
  | v :: vs => by
    obtain ⟨A1, h1, s1⟩ := EnvR.wipe h vs
    obtain ⟨A2, h2, s2⟩ := h1.out1 (i := v) (s := .any)
    exact ⟨A2, h2, s2.trans s1⟩
theorem EnvR.slot : ∀ {G : List Sh} {σ : L2.St} {ρ : Env} {A} {i : Nat} {s : Sh} {x : Option V}, EnvR K F H (G.set i .any) (σ.set i none) ρ A → ρ[i]? = some none → G[i]? = some s → σ[i]? = some x → EnvR K F H G σ ρ A
  | [], _, _, _, i, s, x, h, e, g, _ => by simp at g
  | g :: G, y :: σ, none :: ρ, A, 0, s, x, h, e, _, _ => by simpa only [List.set, EnvR] using h
  | g :: G, y :: σ, some d :: ρ, A, 0, s, x, h, e, _, _ => by simp at e
  | g :: G, y :: σ, none :: ρ, A, i + 1, s, x, h, e, e2, e3 => by
    have h' : EnvR K F H (G.set i .any) (σ.set i none) ρ A := by simpa only [List.set, EnvR] using h
    have := EnvR.slot h' (by simpa using e) (by simpa using e2) (by simpa using e3)
    simpa only [EnvR] using this
  | g :: G, some v :: σ, some d :: ρ, A, i + 1, s, x, ⟨A1, A2, h1, h2, eA⟩, e, e2, e3 => ⟨A1, A2, h1, EnvR.slot h2 (by simpa using e) (by simpa using e2) (by simpa using e3), eA⟩
  | _ :: _, [], _, _, _, _, _, h, _, _, e3 => by simp at e3
  | _ :: _, _ :: _, [], _, _, _, _, h, e, _, _ => by simp at e
  | _ :: _, none :: _, some _ :: _, _, i + 1, _, _, h, _, _, _ => by simp [EnvR] at h
theorem EnvR.unwipe {G : List Sh} {σ : L2.St} {ρ : Env} : ∀ {own : List Nat} {ρh : Env} {A}, own.Nodup → (∀ i ∈ own, ∃ s x, G[i]? = some s ∧ σ[i]? = some x) → (∀ i ∈ own, ρh[i]? = some none) →
    (∀ i ∈ own, ∀ d, ρ[i]? = some (some d) → ∃ s v, G[i]? = some s ∧ σ[i]? = some (some v) ∧ Ow K F H s v d []) → EnvR K F H (wipeG own G) (L2.wipe σ own) ρh A → ∃ A', EnvR K F H G σ (restE own ρ ρh) A' ∧ A'.Perm A
  | [], ρh, A, _, _, _, _, h => ⟨A, h, List.Perm.refl _⟩
  | v :: vs, ρh, A, nd, hx, hn, hv, h => by
    obtain ⟨hvn, nd'⟩ := List.nodup_cons.mp nd
    obtain ⟨s, x, g1, g2⟩ := hx v List.mem_cons_self
    have wg : ∀ {vs : List Nat}, v ∉ vs → (wipeG vs G)[v]? = G[v]? := fun {vs} hv => by
      induction vs with
      | nil => rfl
      | cons a r ih =>
        unfold wipeG
        rw [List.getElem?_set_ne (fun z => hv (by rw [z]; exact List.mem_cons_self))]
        exact ih fun z => hv (List.mem_cons_of_mem _ z)
    have ws : ∀ {vs : List Nat}, v ∉ vs → (L2.wipe σ vs)[v]? = σ[v]? := fun {vs} hv => by
      induction vs with
      | nil => rfl
      | cons a r ih =>
        unfold L2.wipe
        rw [List.getElem?_set_ne (fun z => hv (by rw [z]; exact List.mem_cons_self))]
        exact ih fun z => hv (List.mem_cons_of_mem _ z)
    have h1 : EnvR K F H (wipeG vs G) (L2.wipe σ vs) ρh A := EnvR.slot (i := v) h (hn v List.mem_cons_self) ((wg hvn).trans g1) ((ws hvn).trans g2)
    have hl : v < ρh.length := (List.getElem?_eq_some_iff.mp (hn v List.mem_cons_self)).1
    have again : ∀ {y A1}, EnvR K F H (wipeG vs G) (L2.wipe σ vs) (ρh.set v y) A1 → A1.Perm A → ∃ A', EnvR K F H G σ (restE vs ρ (ρh.set v y)) A' ∧ A'.Perm A := fun {y A1} hh pm => by
      obtain ⟨A', h3, p3⟩ := EnvR.unwipe (own := vs) nd' (fun i hi => hx i (List.mem_cons_of_mem _ hi)) (fun i hi => by
        rw [List.getElem?_set_ne (fun z => hvn (by rw [z]; exact hi))]
        exact hn i (List.mem_cons_of_mem _ hi)) (fun i hi => hv i (List.mem_cons_of_mem _ hi)) hh
      exact ⟨A', h3, p3.trans pm⟩
    unfold restE
    cases e : ρ[v]? with
    | none =>
      rw [List.getD_eq_getElem?_getD, e]
      refine again (A1 := A) ?_ (List.Perm.refl _)
      have : ρh.set v none = ρh := by
        apply List.ext_getElem?
        intro j
        by_cases hj : v = j
        · subst hj; rw [List.getElem?_set_self hl, hn v List.mem_cons_self]
        · rw [List.getElem?_set_ne hj]
      show EnvR K F H _ _ (ρh.set v none) A
      rw [this]; exact h1
    | some y =>
      rw [List.getD_eq_getElem?_getD, e]
      cases y with
      | none =>
        refine again (A1 := A) ?_ (List.Perm.refl _)
        have : ρh.set v none = ρh := by
          apply List.ext_getElem?
          intro j
          by_cases hj : v = j
          · subst hj; rw [List.getElem?_set_self hl, hn v List.mem_cons_self]
          · rw [List.getElem?_set_ne hj]
        show EnvR K F H _ _ (ρh.set v none) A
        rw [this]; exact h1
      | some d =>
        obtain ⟨s', w, g3, g4, o⟩ := hv v List.mem_cons_self d e
        obtain ⟨A1, h2, p2⟩ := h1.put (i := v) ((wg hvn).trans g3) (hn v List.mem_cons_self) ((ws hvn).trans g4) o
        exact again h2 p2
theorem wipeE_none : ∀ {own : List Nat} {ρ : Env} {i : Nat}, i ∈ own → i < ρ.length → (wipeE own ρ)[i]? = some none
  | v :: vs, ρ, i, h, hl => by
    have len : ∀ (vs : List Nat), (wipeE vs ρ).length = ρ.length := fun vs => by
      induction vs with
      | nil => rfl
      | cons a r ih => unfold wipeE; rw [List.length_set]; exact ih
    unfold wipeE
    by_cases e : v = i
    · subst e
      rw [List.getElem?_set_self (by rw [len]; exact hl)]
    · rw [List.getElem?_set_ne e]
      rcases List.mem_cons.mp h with z | z
      · exact absurd z.symm e
      · exact wipeE_none z hl
theorem wipe_eq {σ σ' : L2.St} : ∀ {own : List Nat}, (∀ j, j ∉ own → σ'[j]? = σ[j]?) → σ'.length = σ.length → L2.wipe σ' own = L2.wipe σ own := by
  intro own h hl
  have key : ∀ (τ : L2.St) (vs : List Nat) (j : Nat), (L2.wipe τ vs)[j]? = if j ∈ vs ∧ j < τ.length then some none else τ[j]? := fun τ vs j => by
    induction vs with
    | nil => simp [L2.wipe]
    | cons a r ih =>
      unfold L2.wipe
      by_cases e : a = j
      · subst e
        by_cases hj : a < τ.length
        · rw [List.getElem?_set_self (by rw [L2.wipe_length]; exact hj)]
          simp [hj]
        · rw [List.getElem?_eq_none (by rw [List.length_set, L2.wipe_length]; omega)]
          simp [hj]
      · rw [List.getElem?_set_ne e, ih]
        by_cases hr : j ∈ r
        · simp [hr]
        · simp [hr, Ne.symm e]
  apply List.ext_getElem?
  intro j
  rw [key, key, hl]
  by_cases hj : j ∈ own
  · by_cases hz : j < σ.length
    · simp [hj, hz]
    · simp [hj, hz]
      omega
  · simp [hj]
    exact h j hj
end

/-! ### the mirror -/
def lcL (own : List Nat) (ρ0 : Env) (mt : Mt) (mc : Mi Bool) (me : Mi D) : List D → List D → Env → Out D
  | acc, [], ρ => .ok (.lst acc) (restE own ρ0 ρ)
  | acc, d :: ds, ρ => match mt d ρ with
    | none => .bad
    | some ρ1 => match mc ρ1 with
      | .ok true ρ2 => (match me ρ2 with
        | .ok x ρ3 => lcL own ρ0 mt mc me (acc ++ [x]) ds (wipeE own ρ3)
        | _ => .bad)
      | .ok false ρ2 => lcL own ρ0 mt mc me acc ds (wipeE own ρ2)
      | _ => .bad
def eLc (own : List Nat) (mi : Mi (List D)) (mt : Mt) (mc : Mi Bool) (me : Mi D) : Mi D := bnd mi fun ds ρ => if ds.length ≤ 16777216 then lcL own ρ mt mc me [] ds (wipeE own ρ) else .bad
def tYesM : Mi Bool := ret true

abbrev W0 : WX := fun _ _ _ _ => False
def DTsB (X : Cx) (p : Bool) (G : List Sh) (es : List Expr) (m : Mi Bool) : Prop := ∃ t, PTs X es t ∧ Tl X W0 p RB G t m
section
variable {X : Cx} {W : WX} {C : SC} {p p1 p2 p3 : Bool} {G G1 G2 G' Gh : List Sh} {e a b c tg elt iter : Expr} {es ifs : List Expr} {pos q : Pos} {F F1 : FS} {H H1 : Hp} {A A1 : List Addr} {σ : L2.St} {ρ ρ1 : Env} {s : Sh} {st : Stmt} {sts rest : List Stmt} {scope : Scope} {own : List (Str × Nat)}
theorem dtb_nil : DTsB X true G [] tYesM := ⟨_, pts_nil, fun F H A σ ρ Q wf en hp => hp.fin0 wf en rfl⟩
theorem dtb_one {m : Mi Bool} (h : DT X W0 p G e m) : DTsB X p G [e] m := by
  obtain ⟨t, pe, l⟩ := h
  exact ⟨t, pts_one pe, l⟩
abbrev AllB (X : Cx) (scope : Scope) (P : Cx → Prop) : Prop := ∀ (s : Shared) (H : Hp) (C : Addr) (cl : List (Str × Addr)) (fp : List Addr), P (X.blk s H scope (compEnvC scope cl C X.env) fp)
theorem keepD {F F' : FS} {H H' : Hp} {A A' : List Addr} {D : Addr} {o : HO} (s : Stp F H A F' H' A') (h : H D = some o) (n : D ∉ A) (f : ¬ F D) (t : nTb o := by exact nt_lst) (t2 : Nt (some o) := by exact ntl) : H' D = some o ∧ D ∉ A' ∧ ¬ F' D := by
  refine ⟨(s.keep D o h n).eq t, fun z => ?_, fun z => ?_⟩
  · rcases s.own D z with q | q
    · exact n q
    · rw [h] at q; cases q
  · rcases s.fn D z with q | q | q
    · exact f q
    · exact n q
    · rw [h] at q; exact q t2
theorem lc_tl {wi : TI} {g : TG} {tt : TT} {te : TE} {mi : Mi (List D)} {mt : Mt} {mc : Mi Bool} {me : Mi D} {ws : List Nat} (li : Tl X W p (ItD X.K) G wi mi) (lg : TlG X (wipeG (own.map (·.2)) G) g mt G2 ws) (lt : Tl X W0 p2 RB G2 tt mc) (le : Tl X W0 p3 (Rp X.K) G2 te me)
    (hw : ∀ j ∈ ws, j ∈ own.map (·.2)) (hG : wipeG (own.map (·.2)) G2 = wipeG (own.map (·.2)) G) (hnd : (own.map (·.2)).Nodup) (hown : ∀ i ∈ own.map (·.2), G[i]? = some .fz ∨ G[i]? = some .any) :
    TlO X W false (.lst .fz) G (tLc wi g tt te (own.map (·.2))) (eLc (own.map (·.2)) mi mt mc me) := by
  intro F H A σ ρ Q wf en hp
  unfold eLc at hp
  refine li.useO (p2 := false) wf en (by rw [Bool.and_false]; exact hp) fun ds ρ1 J H1 F1 A1 s1 wf1 en1 itd _ hp => ?_
  intro D hD
  split at hp
  rotate_left
  · exact hp.elim
  rename_i hlen
  generalize hov : own.map (·.2) = ov at *
  have l1 := en1.len
  have keepOwn : ∀ {F' H'}, Fut F1 H1 F' H' → ∀ i ∈ ov, ∀ d, ρ1[i]? = some (some d) → ∃ s v, G[i]? = some s ∧ σ[i]? = some (some v) ∧ Ow X.K F' H' s v d [] := fun {F' H'} m i hi d hd => by
    rcases hown i hi with h | h
    · obtain ⟨v, B, e1, o, _⟩ := en1.get h hd
      exact ⟨_, v, h, e1, o.1.mono m, rfl⟩
    · obtain ⟨v, B, e1, o, _⟩ := en1.get h hd
      exact ⟨_, v, h, e1, rfl⟩
  have hlt : ∀ i ∈ ov, i < G.length := fun i hi => by
    rcases hown i hi with h | h <;> exact (List.getElem?_eq_some_iff.mp h).1
  have hx : ∀ i ∈ ov, ∃ s x, G[i]? = some s ∧ σ[i]? = some x := fun i hi => by
    have h := hlt i hi
    exact ⟨_, _, List.getElem?_eq_getElem h, List.getElem?_eq_getElem (by omega)⟩
  have dA : D ∉ A1 := fun z => (wf1.a D z).1 hD
  have dF : ¬ F1 D := fun z => wf1.f D z hD
  refine ⟨fun i m H' => m = ds.length - i ∧ i ≤ ds.length ∧ ∃ F' A' ρ' acc accd, Stp F1 H1 A1 F' H' (D :: A') ∧ Wf F' H' A' ∧ H' D = some (.lst acc) ∧ Rps X.K F' H' acc accd ∧ D ∉ A' ∧ ¬ F' D ∧ EnvR X.K F' H' (wipeG ov G) (wipe σ ov) ρ' A' ∧ (∀ i ∈ ov, ρ'[i]? = some none) ∧
    accd.length + (ds.drop i).length ≤ 16777216 ∧ PgO X W false (.lst .fz) G σ F1 H1 A1 ρ1 (lcL ov ρ1 mt mc me accd (ds.drop i) ρ') Q, ⟨_, rfl, Nat.zero_le _, ?_⟩, ?_⟩
  · obtain ⟨A2, en2, sb⟩ := en1.wipe ov
    have ps : Pst F1 H1 F1 (upd H1 D (.lst [])) := Pst.lay0 hD wf1.f
    refine ⟨F1, A2, wipeE ov ρ1, [], [], ⟨fun _ h => h, fun b o e _ => ps.keep b o e, fun b hb => ?_, fun b h => .inl h, ps.tb⟩, (ps.wf wf1).sub sb, upd_same, .nil, fun z => dA (sb.subset z), dF, en2.mono (ps.stay fun a ha => wf1.a a (sb.subset ha)), fun i hi => wipeE_none hi (by have := hlt i hi; omega), by simpa using hlen, by simpa using hp⟩
    rcases List.mem_cons.mp hb with z | z
    · rw [z]; exact .inr hD
    · exact .inl (sb.subset z)
  · rintro i m H' ⟨rfl, hle, F', A', ρ', acc, accd, sp, wf', hD', racc, nA, nF, en', hno, hsz, hp'⟩
    have dn : H' D ≠ none := by rw [hD']; exact fun z => nomatch z
    have fut1 : Fut F1 H1 F' H' := sp.fut wf1
    obtain ⟨stop, go⟩ := itd F' H' fut1 wf'.f i
    by_cases hi : i < ds.length
    · have e0 : ds[i]? = some ds[i] := List.getElem?_eq_getElem hi
      obtain ⟨gg, yl⟩ := go _ e0
      rw [List.drop_eq_getElem_cons hi] at hp' hsz
      unfold lcL at hp'
      refine .inr ⟨gg, fun H' => ∃ F' A' ρ' acc accd, Stp F1 H1 A1 F' H' (D :: A') ∧ Wf F' H' A' ∧ H' D = some (.lst acc) ∧ Rps X.K F' H' acc accd ∧ D ∉ A' ∧ ¬ F' D ∧ EnvR X.K F' H' (wipeG ov G) (wipe σ ov) ρ' A' ∧ (∀ i ∈ ov, ρ'[i]? = some none) ∧
        accd.length + (ds.drop (i + 1)).length ≤ 16777216 ∧ PgO X W false (.lst .fz) G σ F1 H1 A1 ρ1 (lcL ov ρ1 mt mc me accd (ds.drop (i + 1)) ρ') Q, fun H2 h => ⟨ds.length - (i + 1), by omega, rfl, hi, h⟩, fun x H2 y => ?_⟩
      obtain ⟨F2, s2, rx⟩ := yl x H2 y
      have wf2 := s2.wf wf'
      have en2 := en'.mono (s2.stay wf'.a)
      obtain ⟨dD2, _, nF2⟩ := keepD (A := A') (A' := A') s2.stp hD' nA nF
      cases e1 : mt ds[i] ρ' with
      | none => simp only [e1] at hp'; exact hp'.elim
      | some ρ2 =>
        simp only [e1] at hp'
        refine lg F2 H2 A' (wipe σ ov) ρ' x ds[i] ρ2 _ wf2 en2 rx e1 fun σ3 H3 F3 A3 s3 wf3 en3 hj => ?_
        obtain ⟨dD3, nA3, nF3⟩ := keepD s3 dD2 nA nF2
        have l2 := en2.len
        have l3 := en3.len
        have hlG : (wipeG ov G2).length = (wipeG ov G).length := by rw [hG]
        have wgl : ∀ (vs : List Nat) (G : List Sh), (wipeG vs G).length = G.length := fun vs G => by
          induction vs with
          | nil => rfl
          | cons a r ih => unfold wipeG; rw [List.length_set]; exact ih
        rw [wgl, wgl] at hlG
        rw [wgl] at l2
        have hwp : wipe σ3 ov = wipe σ ov := by
          have h1 : wipe σ3 ov = wipe (wipe σ ov) ov := wipe_eq (fun j hj' => hj j fun z => hj' (hw j z)) (by omega)
          have h2 : wipe (wipe σ ov) ov = wipe σ ov := by
            refine wipe_eq (fun j hj' => ?_) (wipe_length _ _)
            have : ∀ (vs : List Nat), j ∉ vs → (wipe σ vs)[j]? = σ[j]? := fun vs => by
              induction vs with
              | nil => exact fun _ => rfl
              | cons a r ih =>
                intro hv
                unfold wipe
                rw [List.getElem?_set_ne (fun z => hv (by rw [z]; exact List.mem_cons_self))]
                exact ih fun z => hv (List.mem_cons_of_mem _ z)
            exact this ov hj'
          rw [h1, h2]
        refine ⟨hwp, ?_⟩
        have st3 : Stp F1 H1 A1 F3 H3 (D :: A3) := by
          have t : Stp F' H' A' F3 H3 A3 := s2.stp.trans s3
          refine ⟨fun a h => t.f a (sp.f a h), fun b o e n => ?_, fun b hb => ?_, fun b hb => ?_, fun t0 => t.tb (sp.tb t0)⟩
          · refine (sp.keep b o e n).trans fun u hu => t.keep b u hu fun z => ?_
            rcases sp.own b (List.mem_cons_of_mem _ z) with q | q
            · exact n q
            · rw [e] at q; cases q
          · rcases List.mem_cons.mp hb with z | z
            · exact sp.own b (by rw [z]; exact List.mem_cons_self)
            · rcases t.own b z with q | q
              · exact sp.own b (List.mem_cons_of_mem _ q)
              · cases e : H1 b with
                | none => exact .inr rfl
                | some o =>
                  by_cases hA : b ∈ A1
                  · exact .inl hA
                  · exact absurd q (sp.keep b o e hA).ne
          · rcases t.fn b hb with q | q | q
            · exact sp.fn b q
            · exact .inr ((sp.own b (List.mem_cons_of_mem _ q)).imp id nt_none)
            · by_cases hA : b ∈ A1
              · exact .inr (.inl hA)
              · exact .inr (.inr fun z => q (z.step fun o e => sp.keep b o e hA))
        have tr : ∀ {F3 H3 A3 F4 H4 A4}, Stp F1 H1 A1 F3 H3 (D :: A3) → D ∉ A3 → Stp F3 H3 A3 F4 H4 A4 → Stp F1 H1 A1 F4 H4 (D :: A4) := fun {F3 H3 A3 F4 H4 A4} sp n t => by
          refine ⟨fun a h => t.f a (sp.f a h), fun b o e n => ?_, fun b hb => ?_, fun b hb => ?_, fun t0 => t.tb (sp.tb t0)⟩
          · refine (sp.keep b o e n).trans fun u hu => t.keep b u hu fun z => ?_
            rcases sp.own b (List.mem_cons_of_mem _ z) with q | q
            · exact n q
            · rw [e] at q; cases q
          · rcases List.mem_cons.mp hb with z | z
            · exact sp.own b (by rw [z]; exact List.mem_cons_self)
            · rcases t.own b z with q | q
              · exact sp.own b (List.mem_cons_of_mem _ q)
              · cases e : H1 b with
                | none => exact .inr rfl
                | some o =>
                  by_cases hA : b ∈ A1
                  · exact .inl hA
                  · exact absurd q (sp.keep b o e hA).ne
          · rcases t.fn b hb with q | q | q
            · exact sp.fn b q
            · exact .inr ((sp.own b (List.mem_cons_of_mem _ q)).imp id nt_none)
            · by_cases hA : b ∈ A1
              · exact .inr (.inl hA)
              · exact .inr (.inr fun z => q (z.step fun o e => sp.keep b o e hA))
        have futA : Fut F' H' F3 H3 := (s2.stp.trans s3).fut wf'
        have again : ∀ {F4 H4 A4 ρ4}, EnvR X.K F4 H4 G2 σ3 ρ4 A4 → ∃ A5, EnvR X.K F4 H4 (wipeG ov G) (wipe σ ov) (wipeE ov ρ4) A5 ∧ A5.Sublist A4 ∧ ∀ i ∈ ov, (wipeE ov ρ4)[i]? = some none := fun {F4 H4 A4 ρ4} en4 => by
          obtain ⟨A5, en5, sb⟩ := en4.wipe ov
          rw [hG, hwp] at en5
          have l4 := en4.len
          exact ⟨A5, en5, sb, fun i hi => wipeE_none hi (by have := hlt i hi; omega)⟩
        refine lt F3 H3 A3 σ3 ρ2 _ wf3 en3 ?_
        cases e2 : mc ρ2 with
        | bad => simp only [e2] at hp'; exact hp'.elim
        | exc x ρ3 => simp only [e2] at hp'; exact hp'.elim
        | ok k ρ3 =>
          intro k' H4 F4 A4 s4 wf4 en4 rk _
          cases rk
          obtain ⟨dD4, nA4, nF4⟩ := keepD s4 dD3 nA3 nF3
          cases k with
          | false =>
            simp only [e2] at hp'
            refine iteF ?_
            obtain ⟨A5, en5, sb, nn⟩ := again en4
            have st4 := tr st3 nA3 s4
            refine ⟨F4, A5, wipeE ov ρ3, acc, accd, Stp.sub st4 (List.Sublist.cons_cons D sb), wf4.sub sb, dD4, (racc.mono futA).mono (s4.fut wf3), fun z => nA4 (sb.subset z), nF4, en5, nn, by simp at hsz ⊢; omega, hp'⟩
          | true =>
            simp only [e2] at hp'
            refine iteT ?_
            refine le F4 H4 A4 σ3 ρ3 _ wf4 en4 ?_
            cases e3 : me ρ3 with
            | bad => simp only [e3] at hp'; exact hp'.elim
            | exc x ρ4 => simp only [e3] at hp'; exact hp'.elim
            | ok z ρ4 =>
              simp only [e3] at hp'
              intro y H5 F5 A5 s5 wf5 en5 ry _
              obtain ⟨dD5, nA5, nF5⟩ := keepD s5 dD4 nA4 nF4
              have r5 := ((racc.mono futA).mono (s4.fut wf3)).mono (s5.fut wf4)
              have hl := r5.length
              refine ⟨acc, dD5, by rw [szl]; simp at hsz; omega, ?_⟩
              obtain ⟨A6, en6, sb, nn⟩ := again en5
              have st5 := tr (tr st3 nA3 s4) nA4 s5
              -- the list is written: nothing else leans on it
              have fut6 : Fut F5 H5 F5 (upd H5 D (.lst (acc ++ [y]))) := ⟨fun _ h => h, fun a o f e => .inl (by rw [upd_ne (ne_f f nF5)]; exact e)⟩
              have sty : Stay F5 H5 A6 F5 (upd H5 D (.lst (acc ++ [y]))) := ⟨fut6, fun t => t.updL dD5, fun a ha o e _ => by rw [upd_ne (ne_a (sb.subset ha) nA5)]; exact e⟩
              refine ⟨F5, A6, wipeE ov ρ4, acc ++ [y], accd ++ [z], ?_, ?_, upd_same, (r5.mono fut6).app (.cons (ry.mono fut6) .nil), fun z => nA5 (sb.subset z), nF5, en6.mono sty, nn, by simp at hsz ⊢; omega, hp'⟩
              · refine ⟨st5.f, fun b o e n => ?_, fun b hb => ?_, st5.fn, fun t => (st5.tb t).updL dD5⟩
                · have hne : b ≠ D := fun z => by subst z; rw [hD] at e; cases e
                  rw [upd_ne hne]
                  exact st5.keep b o e n
                · rcases List.mem_cons.mp hb with z | z
                  · exact st5.own b (by rw [z]; exact List.mem_cons_self)
                  · exact st5.own b (List.mem_cons_of_mem _ (sb.subset z))
              · refine ⟨fun a f => ?_, fun a ha => ?_, wf5.nd.sublist sb, fun a ha => wf5.ap a (sb.subset ha)⟩
                · rw [upd_ne (ne_f f nF5)]; exact wf5.f a f
                · rw [upd_ne (ne_a (sb.subset ha) nA5)]; exact wf5.a a (sb.subset ha)
    · refine .inl ⟨stop (by omega) hle, ?_⟩
      rw [List.drop_eq_nil_of_le (by omega)] at hp'
      unfold lcL at hp'
      obtain ⟨A2, en2, pm⟩ := EnvR.unwipe (ρ := ρ1) hnd hx hno (keepOwn fut1) en'
      have n1 : (D :: A2).Nodup := List.nodup_cons.mpr ⟨fun z => nA (pm.mem_iff.mp z), pm.nodup_iff.mpr wf'.nd⟩
      refine hp' (.ref D) H' F' A2 [D] ⟨sp.f, sp.keep, fun b hb => ?_, sp.fn, sp.tb⟩ ⟨wf'.f, fun a ha => ?_, n1, fun a ha => ?_⟩ en2 ⟨D, acc, accd, [], rfl, rfl, hD', all3_of racc, rfl⟩ fun z => nomatch z
      · rcases List.mem_cons.mp hb with z | z
        · exact sp.own b (by rw [z]; exact List.mem_cons_self)
        · exact sp.own b (List.mem_cons_of_mem _ (pm.mem_iff.mp z))
      · rcases List.mem_cons.mp ha with z | z
        · rw [z, hD']; exact ntl
        · exact wf'.a a (pm.mem_iff.mp z)
      · rcases List.mem_cons.mp ha with z | z
        · rw [z]; exact nF
        · exact wf'.ap a (pm.mem_iff.mp z)
theorem allB_tg {mt : Mt} {ws : List Nat} (h : AllB X scope fun X => DTg X G tg mt G2 ws) : ∃ g, (∀ (s : Shared) (H : Hp) (C : Addr) (cl : List (Str × Addr)) (fp : List Addr), PG (X.blk s H scope (compEnvC scope cl C X.env) fp) tg g) ∧ TlG X G g mt G2 ws := by
  refine ⟨fun v σ H Q => ∀ s H0 C cl fp, Classical.choose (h s H0 C cl fp) v σ H Q, fun s H0 C cl fp => ⟨fun pins s' σ H v u Q I r q => ?_⟩, fun F H A σ ρ v d ρ' Q wf en r e k s H0 C cl fp => ?_⟩
  · exact (Classical.choose_spec (h s H0 C cl fp)).1.run pins s' σ H v u Q I r (q s H0 C cl fp)
  · exact (Classical.choose_spec (h s H0 C cl fp)).2 F H A σ ρ v d ρ' Q wf en r e k
theorem allB_ts {m : Mi Bool} (h : AllB X scope fun X => DTsB X p G ifs m) : ∃ t, (∀ (s : Shared) (H : Hp) (C : Addr) (cl : List (Str × Addr)) (fp : List Addr), PTs (X.blk s H scope (compEnvC scope cl C X.env) fp) ifs t) ∧ Tl X W0 p RB G t m := by
  refine ⟨fun σ H Q => ∀ s H0 C cl fp, Classical.choose (h s H0 C cl fp) σ H Q, fun s H0 C cl fp => ⟨fun pins s' σ H Q I q => ?_⟩, fun F H A σ ρ Q wf en hp s H0 C cl fp => ?_⟩
  · exact (Classical.choose_spec (h s H0 C cl fp)).1.run pins s' σ H Q I (q s H0 C cl fp)
  · exact (Classical.choose_spec (h s H0 C cl fp)).2 F H A σ ρ Q wf en hp
theorem allB_e {m : Mi D} (h : AllB X scope fun X => DE X W0 p G e m) : ∃ t, (∀ (s : Shared) (H : Hp) (C : Addr) (cl : List (Str × Addr)) (fp : List Addr), PE (X.blk s H scope (compEnvC scope cl C X.env) fp) e t) ∧ Tl X W0 p (Rp X.K) G t m := by
  refine ⟨fun σ H Q => ∀ s H0 C cl fp, Classical.choose (h s H0 C cl fp) σ H Q, fun s H0 C cl fp => ⟨fun pins s' σ H Q I q => ?_⟩, fun F H A σ ρ Q wf en hp s H0 C cl fp => ?_⟩
  · exact (Classical.choose_spec (h s H0 C cl fp)).1.run pins s' σ H Q I (q s H0 C cl fp)
  · exact (Classical.choose_spec (h s H0 C cl fp)).2 F H A σ ρ Q wf en hp
theorem do_lc {mi : Mi (List D)} {mt : Mt} {mc : Mi Bool} {me : Mi D} {ws : List Nat} (hc : X.calm = true) (hN : X.N.Nodup) (ok : BlkOk X.N X.env.scope scope own) (hi : DI X W p G tg iter mi)
    (hg : AllB X scope fun X => DTg X (wipeG (own.map (·.2)) G) tg mt G2 ws) (ht : AllB X scope fun X => DTsB X p2 G2 ifs mc) (he : AllB X scope fun X => DE X W0 p3 G2 elt me)
    (hw : ∀ j ∈ ws, j ∈ own.map (·.2)) (hG : wipeG (own.map (·.2)) G2 = wipeG (own.map (·.2)) G) (hnd : (own.map (·.2)).Nodup) (hown : ∀ i ∈ own.map (·.2), G[i]? = some .fz ∨ G[i]? = some .any)
    (hs : ∀ x, foldedSetIterable iter X.env x = pure x := by intro _; rfl) : DO X W false (.lst .fz) G (.ListComp elt [⟨tg, iter, ifs, 0⟩] scope pos) (eLc (own.map (·.2)) mi mt mc me) := by
  obtain ⟨wi, pi, li⟩ := hi
  obtain ⟨g, pg, lg⟩ := allB_tg hg
  obtain ⟨tt, pt, lt⟩ := allB_ts ht
  obtain ⟨te, pe, le⟩ := allB_e he
  exact ⟨_, pe_lc hc hN pi ok pg pt pe hs, lc_tl li lg lt le hw hG hnd hown⟩
theorem ds_setLc {i : Nat} {x : Str} {mi : Mi (List D)} {mt : Mt} {mc : Mi Bool} {me : Mi D} {ws : List Nat} {spos : Pos} (hc : X.calm = true) (hN : X.N.Nodup) (hx : X.N[i]? = some x) (hxl : X.env.scope.names.lookup x = some .local)
    (hsw : swapsWith (.ListComp elt [⟨tg, iter, ifs, 0⟩] scope pos) (some (.Name x q)) spos.line X.env = pure true) (ok : BlkOk X.N X.env.scope scope own) (hi : DI X W p G tg iter mi)
    (hg : AllB X scope fun X => DTg X (wipeG (own.map (·.2)) G) tg mt G2 ws) (ht : AllB X scope fun X => DTsB X p2 G2 ifs mc) (he : AllB X scope fun X => DE X W0 p3 G2 elt me)
    (hw : ∀ j ∈ ws, j ∈ own.map (·.2)) (hG : wipeG (own.map (·.2)) G2 = wipeG (own.map (·.2)) G) (hnd : (own.map (·.2)).Nodup) (hown : ∀ i ∈ own.map (·.2), G[i]? = some .fz ∨ G[i]? = some .any) (wx : Wk G C.Gx)
    (hs : ∀ x, foldedSetIterable iter X.env x = pure x := by intro _; rfl) : DS X W C G (.Assign [.Name x q] (.ListComp elt [⟨tg, iter, ifs, 0⟩] scope pos) spos) (sSet i (eLc (own.map (·.2)) mi mt mc me)) (G.set i (.lst .fz)) := by
  obtain ⟨wi, pi, li⟩ := hi
  obtain ⟨g, pg, lg⟩ := allB_tg hg
  obtain ⟨tt, pt, lt⟩ := allB_ts ht
  obtain ⟨te, pe, le⟩ := allB_e he
  refine ⟨_, ps_setLc hc hN hx hxl hsw pi ok pg pt pe hs, fun F H A σ ρ E wf en hp => ?_⟩
  exact (lc_tl (W := W) li lg lt le hw hG hnd hown).useS wf en wx hp fun d ρ1 v H1 F1 A1 B wf1 en1 o hp => set_fin wf1 en1 o hp
end
end DM
/-! DmL: lists that are changed; op=; the rule for a def; the end of a law. -/
namespace DM
open PySem PySem.Spec PyProof.Rows L2
variable [LamT]

/-! ### an owned list is changed -/
/-- shapes of a list of this frame's own -/
inductive Ml : Sh → Prop
  | lst : Ml (.lst .fz)
  | at_ {v s} : Ml s → Ml (.at_ v s)
section
variable {K : PySem.W.Frag} {F F' : FS} {H H' : Hp}
theorem Ml.ow {s : Sh} {v : V} {d : D} {B : List Addr} (m : Ml s) (o : Ow K F H s v d B) : ∃ a vs ds, v = .ref a ∧ d = .lst ds ∧ H a = some (.lst vs) ∧ Rps K F H vs ds ∧ B = [a] := by
  induction m with
  | lst =>
    obtain ⟨a, vs, ds, B, rfl, rfl, h, r, e⟩ := o
    obtain ⟨r, e2⟩ := all3_fz r
    exact ⟨a, vs, ds, rfl, rfl, h, r, by rw [e, e2]⟩
  | at_ m ih => exact ih o.2
theorem Ml.of {s : Sh} {a : Addr} {vs ds} (m : Ml s) {v : V} {d : D} {B : List Addr} (o : Ow K F H s v d B) (e : v = .ref a) (h : H' a = some (.lst vs)) (r : Rps K F' H' vs ds) : Ow K F' H' s (.ref a) (.lst ds) [a] := by
  induction m with
  | lst => exact ⟨a, vs, ds, [], rfl, rfl, h, all3_of r, rfl⟩
  | at_ m ih => exact ⟨e ▸ o.1, ih o.2⟩
theorem mut_lst {G : List Sh} {σ : L2.St} {ρ : Env} {A i s d} (wf : Wf F H A) (en : EnvR K F H G σ ρ A) (hG : G[i]? = some s) (m : Ml s) (hd : ρ[i]? = some (some d)) :
    ∃ a vs ds, σ[i]? = some (some (.ref a)) ∧ d = .lst ds ∧ H a = some (.lst vs) ∧ Rps K F H vs ds ∧
      ∀ vs' ds', Rps K F H vs' ds' → ∃ A', Stp F H A F (upd H a (.lst vs')) A' ∧ Wf F (upd H a (.lst vs')) A' ∧ EnvR K F (upd H a (.lst vs')) G σ (ρ.set i (some (.lst ds'))) A' ∧ ∀ w dw, Rp K F H w dw → Rp K F (upd H a (.lst vs')) w dw := by
  obtain ⟨v, B, A', e1, o, en', pm⟩ := en.take hG hd
  obtain ⟨a, vs, ds, rfl, rfl, h, r, rfl⟩ := m.ow o
  have wfp := wf.perm pm
  have aA : a ∈ A := pm.mem_iff.mpr (by simp)
  have nA : a ∉ A' := (List.nodup_cons.mp wfp.nd).1
  refine ⟨a, vs, ds, e1, rfl, h, r, fun vs' ds' r' => ?_⟩
  have nF : ¬ F a := wf.ap a aA
  have fut : Fut F H F (upd H a (.lst vs')) := ⟨fun _ h => h, fun b o f e => .inl (by rw [upd_ne (ne_f f nF)]; exact e)⟩
  have en2 := en'.mono (F' := F) (H' := upd H a (.lst vs')) ⟨fut, fun t => t.updL h, fun b hb o e _ => by rw [upd_ne (ne_a hb nA)]; exact e⟩
  have hi : i < ρ.length := (List.getElem?_eq_some_iff.mp hd).1
  obtain ⟨A2, en3, pm2⟩ := en2.put (i := i) (s := s) (v := .ref a) (d := .lst ds') (B := [a]) hG (by rw [List.getElem?_set_self hi]) e1 (m.of o rfl upd_same (r'.mono fut))
  rw [List.set_set] at en3
  have pm3 : A2.Perm A := pm2.trans pm.symm
  refine ⟨A2, ⟨fun _ h => h, fun b o e n => .inl (by rw [upd_ne (fun z => n (by rw [z]; exact aA))]; exact e), fun b hb => .inl (pm3.mem_iff.mp hb), fun _ h => .inl h, fun t => t.updL h⟩, ⟨fun b f => ?_, fun b hb => ?_, pm3.nodup_iff.mpr wf.nd, fun b hb => wf.ap b (pm3.mem_iff.mp hb)⟩, en3, fun w dw r => r.mono fut⟩
  · rw [upd_ne (ne_f f nF)]; exact wf.f b f
  · by_cases hz : b = a
    · rw [hz, upd_same]; exact ntl
    · rw [upd_ne hz]; exact wf.a b (pm3.mem_iff.mp hb)
end
def VMut (K : PySem.W.Frag) (r : V → List V → Hp → VK → Prop) (f : List D → List D → Option (D × List D)) : Prop :=
  ∀ F H a vs ds xs es d ds' (Q : VK), ¬ F a → H a = some (.lst vs) → Rps K F H vs ds → Rps K F H xs es → f ds es = some (d, ds') → (∀ w vs', Rp K F H w d → Rps K F H vs' ds' → Q w (upd H a (.lst vs'))) → r (.ref a) xs H Q
def eMut (i : Nat) (f : List D → List D → Option (D × List D)) (ma : Mi (List D)) : Mi D := fun ρ => match ρ[i]? with
  | some (some _) => bnd ma (fun es ρ1 => match ρ1[i]? with
    | some (some (.lst ds)) => (match f ds es with
      | some (d, ds') => .ok d (ρ1.set i (some (.lst ds')))
      | none => .bad)
    | _ => .bad) ρ
  | _ => .bad
section
variable {X : Cx} {W : WX} {C : SC} {p p1 p2 p3 : Bool} {G G1 G2 G' Gh : List Sh} {e a b c tg : Expr} {es : List Expr} {pos q apos cpos : Pos} {F F1 : FS} {H H1 : Hp} {A A1 : List Addr} {σ : L2.St} {ρ ρ1 : Env} {s : Sh} {st : Stmt} {sts rest : List Stmt} {x name : Str} {id : String} {r : V → List V → Hp → VK → Prop} {f : List D → List D → Option (D × List D)}
theorem mut_run {es : List D} {vs : List V} {Q : VK} {i : Nat} (hf : VMut X.K r f) (wf : Wf F H A) (en : EnvR X.K F H G σ ρ A) (hG : G[i]? = some s) (m : Ml s) (rs : Rps X.K F H vs es)
    (hp : Pg X W false (Rp X.K) G σ F H A ρ (match ρ[i]? with
    | some (some (.lst ds)) => (match f ds es with
      | some (d, ds') => .ok d (ρ.set i (some (.lst ds')))
      | none => .bad)
    | _ => .bad) Q) : ∀ v, σ[i]? = some (some v) → r v vs H Q := by
  intro v hv
  split at hp
  · rename_i ds hd
    obtain ⟨l, us, ds', e1, e2, h, ru, upd⟩ := mut_lst wf en hG m hd
    cases e2
    rw [hv] at e1; cases e1
    split at hp
    · rename_i d ds2 ef
      have lA : l ∈ A := by
        obtain ⟨v', B, A', e3, o, en', pm⟩ := en.take hG hd
        rw [hv] at e3; cases e3
        obtain ⟨a', vs', ds', e4, _, _, _, rfl⟩ := m.ow o
        cases e4
        exact pm.mem_iff.mpr (by simp)
      refine hf F H l us _ vs es d ds2 Q (wf.ap l lA) h ru rs ef fun w vs' rw' rs' => ?_
      obtain ⟨A', st, wf', en', fu⟩ := upd vs' ds2 rs'
      exact hp w _ F A' st wf' en' (fu _ _ rw') fun z => nomatch z
    · exact hp.elim
  · exact hp.elim
theorem ty_lst {K : PySem.W.Frag} {i : Nat} {d : D} {v : V} (wf : Wf F H A) (en : EnvR K F H G σ ρ A) (hG : G[i]? = some s) (m : Ml s) (hd : ρ[i]? = some (some d)) (hv : σ[i]? = some (some v)) : tyV K "list" v H := by
  obtain ⟨l, us, ds', e1, e2, h, ru, upd⟩ := mut_lst wf en hG m hd
  rw [hv] at e1; cases e1
  exact .inl ⟨rfl, us, SqL.of h⟩
theorem de_mut (i : Nat) {ma : Mi (List D)} (slot : Slot "list" name id) (hty : typeOf (.builtin id) = pure (.type "method_descriptor")) (hm : MtR X id r) (hf : VMut X.K r f) (hG : G[i]? = some s) (m : Ml s) (hN : X.N[i]? = some x) (hv : Vis X.env.scope x) (ha : DA X W p G (e :: es) ma)
    (hd : (x == ("__debug__" : Str)) = false := by decide) (hcd : (x == ("__classdict__" : Str)) = false := by decide)
    (hbase : attributeBase (.Name x q) name X.env (eval (.Name x q) X.env) = eval (.Name x q) X.env := by rfl)
    (hfew : ((backTo cpos (starEach (e :: es) X.env)).all (fun x => !x.1) && (backToKw cpos (keywordEach [] X.env)).all (fun x => x.1.isSome)
      && decide ((e :: es).length + ([] : List Keyword).length + (if ([] : List Keyword).isEmpty then 0 else 1) < 30)) = true := by rfl)
    (hline : (apos.endLine == cpos.line) = true := by rfl) (hs : starEach (e :: es) X.env = (false, eval e X.env) :: starEach es X.env := by rfl) (hplain : (backTo cpos (starEach es X.env)).any (·.1) = false := by rfl) :
    DE X W false G (.Call (.Attribute (.Name x q) name apos) (e :: es) [] cpos) (eMut i f ma) := by
  obtain ⟨t, pe, l⟩ := ha
  refine ⟨_, pe_bm PySem.F.plainAttrs_list slot hty hm (pe_var hN hv hd hcd) pe hbase hfew hline hs hplain, fun F H A σ ρ Q wf en hp => ?_⟩
  unfold eMut at hp
  split at hp
  rotate_left
  · exact hp.elim
  rename_i d hd
  obtain ⟨v, B, e1, o, _⟩ := en.get hG hd
  refine ⟨v, e1, ty_lst wf en hG m hd e1, ?_⟩
  refine l.weak.use (p2 := false) wf en hp fun ds ρ1 xs H1 F1 A1 s1 wf1 en1 rs _ hp => ?_
  exact mut_run hf wf1 en1 hG m rs.1 hp v e1
def mAppend : List D → List D → Option (D × List D)
  | ds, [x] => if ds.length < 16777216 then some (.non, ds ++ [x]) else none
  | _, _ => none
theorem vm_append {K : PySem.W.Frag} : VMut K rAppend mAppend := by
  intro F H a vs ds xs es d ds' Q nF h r rx e k
  unfold mAppend at e
  split at e
  · split at e
    · cases e
      cases rx with
      | cons r1 r2 =>
        cases r2
        exact ⟨a, vs, _, rfl, rfl, h, by rw [r.length, szl]; assumption, k _ _ (.v _) (r.app (.cons r1 .nil))⟩
    · cases e
  · cases e
def gSet (i : Nat) (mi : Mi D) : Mt := fun d ρ => match ρ[i]? with
  | some (some _) => (match mi ρ with
    | .ok (.v (.int k)) ρ1 => (match ρ1[i]? with
      | some (some (.lst ds)) => (ixN ds.length k).map fun j => ρ1.set i (some (.lst (ds.set j d)))
      | _ => none)
    | _ => none)
  | _ => none
theorem dt_set (i : Nat) {ix : Expr} {mi : Mi D} {W : WX} (hG : G[i]? = some s) (m : Ml s) (hN : X.N[i]? = some x) (hv : Vis X.env.scope x) (hi : DE X W p G ix mi) (hd : (x == ("__debug__" : Str)) = false := by decide) (hcd : (x == ("__classdict__" : Str)) = false := by decide)
    (ha : ∀ v, assign (.Subscript (.Name x q) ix pos) X.env v = (do
      let ov ← holding [v] (eval (.Name x q) X.env)
      let iv ← holding [v, ov] (eval ix X.env)
      standAt pos
      holding [v, ov, iv] (setItem ov iv v)
      release [v, ov, iv] []) := by intro _; rfl) : DTg X G (.Subscript (.Name x q) ix pos) (gSet i mi) G [] := by
  obtain ⟨t, pe, l⟩ := hi
  refine ⟨_, pg_sub (pe_var hN hv hd hcd) pe set_list ha, fun F H A σ ρ v d ρ' Q wf en r e k => ?_⟩
  unfold gSet at e
  split at e
  rotate_left
  · cases e
  rename_i d0 hd0
  obtain ⟨w, B, e1, o, _⟩ := en.get hG hd0
  refine ⟨w, e1, l F H A σ ρ _ wf en ?_⟩
  cases em : mi ρ with
  | bad => rw [em] at e; cases e
  | exc x ρ1 => rw [em] at e; cases e
  | ok d1 ρ1 =>
    rw [em] at e
    intro y H1 F1 A1 s1 wf1 en1 r1 _
    split at e
    rotate_left
    · cases e
    rename_i kk ρ1' heq
    cases heq
    split at e
    rotate_left
    · cases e
    rename_i ds hds
    obtain ⟨j, ej, e2⟩ := Option.map_eq_some_iff.mp e
    subst e2
    cases r1
    obtain ⟨a, vs, ds', e3, e4, h, ru, up⟩ := mut_lst wf1 en1 hG m hds
    cases e4
    rw [e1] at e3; cases e3
    obtain ⟨A2, s2, wf2, en2, fu⟩ := up _ _ (ru.set j (r.mono (s1.fut wf)))
    exact ⟨a, vs, kk, j, rfl, rfl, h, by rw [ru.length]; exact ej, k σ _ F1 A2 (s1.trans s2) wf2 en2 fun _ _ => rfl⟩
def sAug (i : Nat) (f : D → D → Option D) (m : Mi D) : Ms := bnd (eVar i) fun x => bnd m fun y => bnd (lift (f x y)) fun z => setI i z
theorem ds_aug {i : Nat} {op : Operator} {r : R2} {f : D → D → Option D} {m : Mi D} (nd : X.N.Nodup) (hi : X.N[i]? = some x) (hx : Loc X.env.scope x) (hG : G[i]? = some .fz) (ho : OpR X (inplaceOp op) r) (hf : VOp X.K r f) (he : DE X W p G e m) (wx : Wk G C.Gx)
    (hl : X.fn x = true ∨ X.env.scope.names.lookup x = some .local := by first | exact .inl rfl | exact .inr rfl | assumption) : DS X W C G (.AugAssign (.Name x q) op e pos) (sAug i f m) G := by
  obtain ⟨t, pe, l⟩ := he
  refine ⟨_, ps_aug (op := op) nd hi hx pe ho hl, fun F H A σ ρ E wf en hp => ?_⟩
  unfold sAug bnd at hp
  unfold eVar at hp
  split at hp
  rotate_left
  · exact hp.elim
  rename_i d hd
  simp only [Out.bind_ok] at hp
  obtain ⟨v, B, e1, o, _⟩ := en.get hG hd
  refine ⟨v, e1, ?_⟩
  have hp2 : PgS X W C G F H A (bnd m (fun y => bnd (lift (f d y)) fun z => setI i z) ρ) E := hp
  refine l F H A σ ρ _ wf en ?_
  unfold bnd at hp2
  cases em : m ρ with
  | bad => rw [em] at hp2; exact hp2
  | exc x ρ' =>
    rw [em] at hp2
    intro cls dd H' F' A' st wf' en' r pp
    obtain ⟨A2, en2, sb⟩ := en'.weak wx
    exact hp2 cls dd σ H' F' A2 (st.sub sb) (wf'.sub sb) en2 r
  | ok d2 ρ1 =>
    rw [em] at hp2
    intro y H1 F1 A1 s1 wf1 en1 r1 _
    simp only [Out.bind_ok] at hp2
    cases ez : f d d2 with
    | none => rw [ez] at hp2; exact hp2.elim
    | some z =>
      rw [ez] at hp2
      refine hf F1 H1 v y d d2 z _ wf1.f (o.1.mono (s1.fut wf)) r1 ez fun w H' F' s2 rz => ?_
      have hp3 : PgS X W C G F1 H1 A1 (setI i z ρ1) E := PgS.after s1 hp2
      have gs : G.set i .fz = G := by
        apply List.ext_getElem?
        intro j
        by_cases hj : i = j
        · subst hj; rw [List.getElem?_set_self (List.getElem?_eq_some_iff.mp hG).1, hG]
        · rw [List.getElem?_set_ne hj]
      have hp4 : PgS X W C (G.set i .fz) F' H' ([] ++ A1) (setI i z ρ1) E := by
        rw [gs]; exact PgS.after s2.stp hp3
      exact set_fin (s := .fz) (B := []) (s2.wf wf1) (en1.mono (s2.stay wf1.a)) ⟨rz, rfl⟩ hp4
end

/-! ### the rule for a def -/
def g0s : List Sh → List V → List Sh
  | [], _ => []
  | .fz :: sh, _ :: vs => .fz :: g0s sh vs
  | s :: sh, v :: vs => .at_ v s :: g0s sh vs
  | _ :: sh, [] => .any :: g0s sh []
def grs : List Sh → List V → List Sh
  | [], _ => []
  | .fz :: sh, _ :: vs => .any :: grs sh vs
  | s :: sh, v :: vs => .at_ v s :: grs sh vs
  | _ :: sh, [] => .any :: grs sh []
def fin : List Sh → List D → Env → Option (List D)
  | [], [], _ => some []
  | .fz :: sh, d :: ds, _ :: ρ => (fin sh ds ρ).map (d :: ·)
  | _ :: sh, _ :: ds, some d' :: ρ => (fin sh ds ρ).map (d' :: ·)
  | _, _, _ => none
def isFz : Sh → Bool
  | .fz => true
  | _ => false
def mfOf (n : Nat) (sh : List Sh) (sr : Sh) (m : Ms) : Mf := fun ds => match m (ds.map some ++ List.replicate (n - ds.length) none) with
  | .ok .nx ρ => if isFz sr then (match fin sh ds ρ with | some ds' => .ok .non ds' | none => .bad) else .bad
  | .ok (.rt d) ρ => (match fin sh ds ρ with | some ds' => .ok d ds' | none => .bad)
  | .exc x ρ => (match fin sh ds ρ with | some ds' => .exc x ds' | none => .bad)
  | _ => .bad
section
variable {K : PySem.W.Frag} {F F' : FS} {H H' : Hp}
theorem env_none (t : TbI F H) : ∀ n : Nat, EnvR K F H (List.replicate n .any) (List.replicate n none) (List.replicate n none) []
  | 0 => ⟨rfl, t⟩
  | n + 1 => by simpa only [List.replicate_succ, EnvR] using env_none t n
theorem env_app : ∀ {G1 G2 : List Sh} {σ1 σ2 : L2.St} {ρ1 ρ2 : Env} {A1 A2}, EnvR K F H G1 σ1 ρ1 A1 → EnvR K F H G2 σ2 ρ2 A2 → EnvR K F H (G1 ++ G2) (σ1 ++ σ2) (ρ1 ++ ρ2) (A1 ++ A2)
  | [], _, [], _, [], _, A1, _, h, h2 => by
    have e : A1 = [] := h.1
    subst e
    exact h2
  | _ :: _, _, _ :: _, _, none :: _, _, _, _, h, h2 => by
    have := env_app (show EnvR K F H _ _ _ _ from by simpa only [EnvR] using h) h2
    simpa only [List.cons_append, EnvR] using this
  | _ :: _, _, some _ :: _, _, some _ :: _, _, _, _, ⟨B1, B2, h1, h3, e⟩, h2 => ⟨B1, _, h1, env_app h3 h2, by rw [e, List.append_assoc]⟩
  | [], _, [], _, _ :: _, _, _, _, h, _ => by simp [EnvR] at h
  | [], _, _ :: _, _, _, _, _, _, h, _ => by simp [EnvR] at h
  | _ :: _, _, [], _, _, _, _, _, h, _ => by simp [EnvR] at h
  | _ :: _, _, _ :: _, _, [], _, _, _, h, _ => by simp [EnvR] at h
  | _ :: _, _, none :: _, _, some _ :: _, _, _, _, h, _ => by simp [EnvR] at h
theorem env_g0 : ∀ {sh : List Sh} {vs : List V} {ds : List D} {A}, EnvR K F H sh (vs.map some) (ds.map some) A → EnvR K F H (g0s sh vs) (vs.map some) (ds.map some) A
  | [], [], [], _, h => h
  | s :: sh, v :: vs, d :: ds, A, ⟨B1, B2, h1, h2, e⟩ => by
    cases s with
    | fz => exact ⟨B1, B2, h1, env_g0 h2, e⟩
    | any => exact ⟨B1, B2, ⟨rfl, h1⟩, env_g0 h2, e⟩
    | lst s => exact ⟨B1, B2, ⟨rfl, h1⟩, env_g0 h2, e⟩
    | dct s => exact ⟨B1, B2, ⟨rfl, h1⟩, env_g0 h2, e⟩
    | at_ w s => exact ⟨B1, B2, ⟨rfl, h1⟩, env_g0 h2, e⟩
  | [], [], _ :: _, _, h => by simp [EnvR] at h
  | [], _ :: _, _, _, h => by simp [EnvR] at h
  | _ :: _, [], _, _, h => by simp [EnvR] at h
  | _ :: _, _ :: _, [], _, h => by simp [EnvR] at h
theorem env_fin (fut : Fut F H F' H') : ∀ {sh : List Sh} {vs : List V} {ds ds' : List D} {A A' n σ ρ}, EnvR K F H sh (vs.map some) (ds.map some) A → EnvR K F' H' (grs sh vs ++ List.replicate n .any) σ ρ A' → fin sh ds ρ = some ds' → EnvR K F' H' sh (vs.map some) (ds'.map some) A'
  | [], [], [], ds', A, A', n, σ, ρ, h, h', e => by
    have e' : ds' = [] := by unfold fin at e; cases e; rfl
    subst e'
    have : ∀ (n : Nat) (σ : L2.St) (ρ : Env) (A' : List Addr), EnvR K F' H' (List.replicate n .any) σ ρ A' → A' = [] := fun n => by
      induction n with
      | zero =>
        intro σ ρ A' h
        cases σ <;> cases ρ <;> first | exact h.1 | simp [EnvR] at h
      | succ n ih =>
        intro σ ρ A' h
        rw [List.replicate_succ] at h
        cases σ with
        | nil => simp [EnvR] at h
        | cons y σ =>
          cases ρ with
          | nil => simp [EnvR] at h
          | cons z ρ =>
            cases z with
            | none => exact ih σ ρ A' (by simpa only [EnvR] using h)
            | some d =>
              cases y with
              | none => simp [EnvR] at h
              | some v =>
                obtain ⟨B1, B2, h1, h2, e⟩ := h
                have h1 : B1 = [] := h1
                rw [e, h1, ih σ ρ B2 h2]; rfl
    have hA : A' = [] := this n σ ρ A' h'
    subst hA
    exact ⟨rfl, h'.tb⟩
  | s :: sh, v :: vs, d :: ds, ds', A, A', n, σ, ρ, ⟨B1, B2, h1, h2, eA⟩, h', e => by
    have other : ∀ {s : Sh}, (∀ d ρ, fin (s :: sh) (d :: ds) ρ = match ρ with | some d' :: ρ => (fin sh ds ρ).map (d' :: ·) | _ => none) → fin (s :: sh) (d :: ds) ρ = some ds' → EnvR K F' H' (.at_ v s :: (grs sh vs ++ List.replicate n .any)) σ ρ A' → EnvR K F' H' (s :: sh) ((v :: vs).map some) (ds'.map some) A' := fun {s} eq e h' => by
      rw [eq] at e
      split at e
      · rename_i d' ρ'
        obtain ⟨r, e1, e2⟩ := Option.map_eq_some_iff.mp e
        subst e2
        cases σ with
        | nil => simp [EnvR] at h'
        | cons y σ =>
          cases y with
          | none => simp [EnvR] at h'
          | some w =>
            obtain ⟨C1, C2, o, k2, e3⟩ := h'
            obtain ⟨rfl, o⟩ := o
            exact ⟨C1, C2, o, env_fin fut h2 k2 e1, e3⟩
      · cases e
    cases s with
    | fz =>
      cases σ with
      | nil => cases ρ <;> simp [EnvR, grs] at h'
      | cons y σ =>
        cases ρ with
        | nil => simp [EnvR, grs] at h'
        | cons z ρ =>
          unfold fin at e
          obtain ⟨r, e1, e2⟩ := Option.map_eq_some_iff.mp e
          subst e2
          cases z with
          | none => exact ⟨[], A', ⟨h1.1.mono fut, rfl⟩, env_fin fut h2 (by simpa only [grs, List.cons_append, EnvR] using h') e1, rfl⟩
          | some d' =>
            cases y with
            | none => simp [EnvR, grs] at h'
            | some w =>
              obtain ⟨C1, C2, o, k2, e3⟩ := h'
              have o : C1 = [] := o
              exact ⟨[], A', ⟨h1.1.mono fut, rfl⟩, env_fin fut h2 (by rw [e3, o]; exact k2) e1, rfl⟩
    | any => exact other (fun d ρ => by cases ρ with | nil => rfl | cons z ρ => cases z <;> rfl) e h'
    | lst s => exact other (fun d ρ => by cases ρ with | nil => rfl | cons z ρ => cases z <;> rfl) e h'
    | dct s => exact other (fun d ρ => by cases ρ with | nil => rfl | cons z ρ => cases z <;> rfl) e h'
    | at_ w s => exact other (fun d ρ => by cases ρ with | nil => rfl | cons z ρ => cases z <;> rfl) e h'
  | [], [], _ :: _, _, _, _, _, _, _, h, _, _ => by simp [EnvR] at h
  | [], _ :: _, _, _, _, _, _, _, _, h, _, _ => by simp [EnvR] at h
  | _ :: _, [], _, _, _, _, _, _, _, h, _, _ => by simp [EnvR] at h
  | _ :: _, _ :: _, [], _, _, _, _, _, _, h, _, _ => by simp [EnvR] at h
end
section
variable {P : Program} {w : World} {K : PySem.W.Frag} {mg : Str → Option Value} {base : Heap} {x qual : Str} {params : Arguments} {body : List Stmt} {scope : Scope} {dvs : List V} {kws : List (Str × V)} {f : Addr} {fd : FuncData}
def CodeAt (K : PySem.W.Frag) (f : Addr) (cdv : Value) : Prop := ∃ (oc : Value) (od : Option Addr) (fd : FuncData) (osl : Array (Option Value)), K.lookup f = some ⟨oc, od, .func fd, osl⟩ ∧ fd.code = cdv ∧ ∃ q, PySem.W.codeIn K cdv q = true
theorem CodeAt.is {K : PySem.W.Frag} {p : He.Defn} {cdv : Value} (h : CodeAt K (He.fAd K p) cdv) : cdv = .ref (He.cT K p).1 := by
  obtain ⟨oc, od, fd, osl, lk, e, q, hq⟩ := h
  obtain ⟨c, rfl⟩ := He.codeIn_ref hq
  rw [show (He.cT K p).1 = He.codeOf K p from rfl, He.codeOf_eq lk e]
theorem FnG.ofD {N ps : List Str} {k : Nat} {sp : Sp} (F : FunD K x qual params body scope dvs kws f fd) (S : FnScope N ps scope) (len : ∀ vs H Q E, sp vs H Q E → vs.length = ps.length)
    (hbody : ∀ (cdv : Value) (A : Around) (outer : List PySem.Env) (s : Shared) (H : Hp) (vs : List V) (Q : VK) (E : XK), Room k (A.deeper (envOfC qual scope s.heap.objs.size f cdv)) → (A.deeper (envOfC qual scope s.heap.objs.size f cdv)).guards = some [] → CodeAt K f cdv → sp vs H Q E →
      ∃ t, PSs (cxOf (L2.CX P w) P w K mg base N qual scope f cdv A outer s H E) body t ∧ t { nx := fun _ H' => Q .non H', rt := Q } (start N vs) H) : FnG P w K mg base (k + 1) f fd ps sp := by
  obtain ⟨oc, od, dV, kV, doc, pm, an, cdv, ct, osl, e0, lk, hcd, _, _⟩ := F.ex
  subst e0
  constructor
  · exact len
  intro A outer s H args us vs Q E hr hg e0 hb r hsp
  have old : ∀ b o, base.get? b = some o → s.heap.get? b = some o := fun b o e => (e0.bs b o e).1
  have inS : K.In s.heap := e0.mod.kin.keeps old
  apply codeAny_call_function hr.depth (inS _ _ lk) rfl S.co S.gen rfl (PySem.W.codeRec_of inS hcd)
  apply hb
  apply wpAny_newFunctionEnv_cells S.kind
  · intro y hy
    obtain ⟨n, v⟩ := y
    cases S.par n (List.of_mem_zip hy).1 with
    | inl q => exact .inl q
    | inr q => exact .inr ⟨q, PySem.W.cellsFrom_some _ _ _ (.inl q)⟩
  · intro env he s1 x
    subst he
    refine ⟨(e0.mod.nolimit.keeps old).keeps x.toInCall.keep, codeAny_func ?_⟩
    obtain ⟨t, pt, ht⟩ := hbody cdv A outer s H vs Q E (hr.deeper _) (by show A.guards = some []; exact hg) ⟨_, _, _, _, lk, rfl, _, hcd⟩ hsp
    have I := inv_start (CX := L2.CX P w) (E := E) S hr.hd e0 (len _ _ _ _ hsp) r x
    refine wpAny_mono (pt.run [] s1 (start N vs) H _ I ht) ?_ (fun _ _ z => z)
    intro fl s' hs
    cases fl with
    | next =>
      obtain ⟨σ2, H2, J, q⟩ := hs
      exact ⟨.non, H2, J.os, J.bare, J.base, J.hok, rfl, q⟩
    | ret u =>
      obtain ⟨v, σ2, H2, J, rv, q⟩ := hs
      exact ⟨v, H2, J.os, J.bare, J.base, J.hok, rv, q⟩
    | brk => obtain ⟨_, _, _, q⟩ := hs; exact q.elim
    | cont => obtain ⟨_, _, _, q⟩ := hs; exact q.elim
abbrev FX (P : Program) (w : World) (K : PySem.W.Frag) (mg : Str → Option Value) (base : Heap) (N : List Str) (qual : Str) (scope : Scope) (f : Addr) (cdv : Value) (A : Around) (outer : List PySem.Env) (s : Shared) (H : Hp) (E : XK) : Cx := cxOf (L2.CX P w) P w K mg base N qual scope f cdv A outer s H E
abbrev scF (sh : List Sh) (sr : Sh) (vs : List V) (m : Nat) : SC := ⟨sr, grs sh vs ++ List.replicate m .any, [], [], grs sh vs ++ List.replicate m .any⟩
theorem fn_in {N : List Str} {sh : List Sh} {sr : Sh} {m : Ms} {n : Nat} {cdv : Value} {A : Around} {outer : List PySem.Env} {s : Shared} {H : Hp} {vs : List V} {E : XK} {Q : VK} (hn : N.length = n)
    (hb : DSs (FX P w K mg base N qual scope f cdv A outer s H E) (fun cls d _ H => E cls d H) (scF sh sr vs (n - sh.length)) (g0s sh vs ++ List.replicate (n - sh.length) .any) body m (grs sh vs ++ List.replicate (n - sh.length) .any))
    (h : spD K mg sh sr (mfOf n sh sr m) vs H Q E) : ∃ t, PSs (FX P w K mg base N qual scope f cdv A outer s H E) body t ∧ t { nx := fun _ H' => Q .non H', rt := Q } (start N vs) H := by
  obtain ⟨hv, F0, A0, ds, wf, en, h⟩ := h
  obtain ⟨t, pt, l⟩ := hb
  have ld := en.len
  simp at ld
  refine ⟨t, pt, l F0 H A0 _ (ds.map some ++ List.replicate (n - ds.length) none) _ wf ?_ ?_⟩
  · have := env_app (env_g0 en) (env_none (K := K) (F := F0) (H := H) en.tb (n - sh.length))
    rw [List.append_nil] at this
    unfold L2.start
    rw [hn, show n - ds.length = n - sh.length by omega, show n - vs.length = n - sh.length by omega]
    exact this
  · unfold mfOf at h
    cases em : m (ds.map some ++ List.replicate (n - ds.length) none) with
    | bad => rw [em] at h; exact h
    | exc x ρ' =>
      rw [em] at h
      intro cls dd σ' H' F' A' st wf' en' xr
      cases ef : fin sh ds ρ' with
      | none => simp only [ef] at h
      | some ds' =>
        simp only [ef] at h
        exact h cls dd H' F' A' st wf' (env_fin (st.fut wf) en en' ef) xr
    | ok c ρ' =>
      rw [em] at h
      cases c with
      | bk => exact h.elim
      | ct => exact h.elim
      | rt d =>
        intro v σ' H' F' A' B st wf' en' o
        cases ef : fin sh ds ρ' with
        | none => simp only [ef] at h
        | some ds' =>
          simp only [ef] at h
          exact h v H' F' A' B st wf' (env_fin ((stp_cons st).fut wf) en en' ef) o
      | nx =>
        intro σ' H' F' A' st wf' en'
        cases es : isFz sr with
        | false => simp only [es] at h; exact h.elim
        | true =>
          cases ef : fin sh ds ρ' with
          | none => simp only [es, ef] at h; exact h.elim
          | some ds' =>
            simp only [es, ef] at h
            have hs : sr = .fz := by cases sr <;> first | rfl | cases es
            subst hs
            exact h .non H' F' A' [] st wf' (env_fin (st.fut wf) en en' ef) ⟨.v _, rfl⟩
theorem fn_d {N ps : List Str} {k : Nat} {sh : List Sh} {sr : Sh} {m : Ms} {n : Nat} (F : FunD K x qual params body scope dvs kws f fd) (S : FnScope N ps scope) (hl : sh.length = ps.length) (hn : N.length = n)
    (hb : ∀ (cdv : Value) (A : Around) (outer : List PySem.Env) (s : Shared) (H : Hp) (vs : List V) (E : XK), Room k (A.deeper (envOfC qual scope s.heap.objs.size f cdv)) → (A.deeper (envOfC qual scope s.heap.objs.size f cdv)).guards = some [] → vs.length = sh.length →
      DSs (FX P w K mg base N qual scope f cdv A outer s H E) (fun cls d _ H => E cls d H) (scF sh sr vs (n - sh.length)) (g0s sh vs ++ List.replicate (n - sh.length) .any) body m (grs sh vs ++ List.replicate (n - sh.length) .any)) : FnG P w K mg base (k + 1) f fd ps (spD K mg sh sr (mfOf n sh sr m)) :=
  FnG.ofD F S (fun vs H Q E h => h.1.trans hl) fun cdv A outer s H vs Q E hr hg hc h => fn_in hn (hb cdv A outer s H vs E hr hg h.1) h
end

/-! ### the end of a law -/
def SysOk (h : Heap) : Prop := (∃ o, h.get? sysModules = some o ∧ o.cls = .type "dict") ∧ ∃ o, h.get? cStatics = some o ∧ PySem.W.lookIn "thirdparty.any" o = some none
theorem SysOk.keeps {h h' : Heap} (x : SysOk h) (k : ∀ b o, h.get? b = some o → h'.get? b = some o) : SysOk h' := by
  obtain ⟨⟨o, e, c⟩, o2, e2, c2⟩ := x
  exact ⟨⟨o, k _ _ e, c⟩, o2, k _ _ e2, c2⟩
abbrev eTab : Obj := { cls := .none, data := .fields #[] }
theorem law_run {P : Program} {w : World} {K : PySem.W.Frag} {mg mb : Str → Option Value} {k : Nat} {fa a : Addr} {fd : FuncData} {x : Str} {m : Mf} {s₁ : Shared} {vs : List Value} {ns : List Int} {cs : List (Addr × Addr)}
    (KX : K.In s₁.heap) (hns : s₁.heap.Ns mainGlobals mg) (hb : s₁.heap.Ns builtinsNs mb) (hbb : ∀ x : Str, x ≠ "__name__" → mb x = bootBuiltins x) (hlim : s₁.heap.NoLimit) (hg : s₁.gens = #[])
    (tabs : ∀ p ∈ cs, s₁.heap.get? p.2 = some eTab ∧ K.lookup p.2 = none ∧ PySem.W.CodeHd s₁.heap p.1 p.2) (own : ∀ q ∈ LamT.tk, q.1 ∈ cs.map (·.2)) (nocd : LamT.cd = [] ∧ ∀ b, ¬ LamT.F0 b)
    (main : ∃ (bm : Addr) (ob : Obj), mg "__builtins__" = some (.ref bm) ∧ bm ≠ builtinsNs ∧ s₁.heap.get? bm = some ob ∧ ob.cls = .type "module" ∧ ob.dict = some builtinsNs ∧ ob.data = .plain)
    (ha : s₁.heap.get? a = some { cls := .type "list", data := .seq vs.toArray }) (hi : IntsAre vs ns) (hl : ns.length ≤ sizeLine) (hr : Room k callerA) (hsys : SysOk s₁.heap)
    (F : ∀ base : Heap, K.In base → base.Ns mainGlobals mg → SysOk base → (∀ p ∈ cs, LamX.TabB base mg p.1 p.2) → FnG P w K mg base k fa fd [x] (spD K mg [.fz] .fz m)) (hbind : ∀ (s : Shared) (u : Value), BindsTo s fd ⟨[u], []⟩ [(x, u)])
    (hm : ∃ ds, m [.scr ns] = .ok (.bl true) ds) :
    codeAny (model P w) callerA (.call (.ref fa) ⟨[.ref a], []⟩) (fun r s' => r = .ok (.ret (.bool true)) ∧ OldK s₁.heap s'.heap ∧ s'.os = s₁.os ∧ AllBare s'.gens) s₁ := by
  have relS := vals_ints hi
  have isTab : ∀ c ∈ cs.map (·.2), s₁.heap.get? c = some eTab ∧ K.lookup c = none := fun c hc => by
    obtain ⟨p, hp, rfl⟩ := List.mem_map.mp hc
    exact ⟨(tabs p hp).1, (tabs p hp).2.1⟩
  have aOut : a ∉ cs.map (·.2) := fun z => by
    have e := (isTab a z).1
    rw [ha] at e
    cases e
  -- by an abstract heap that knows the tables, and the script at most
  have byH : ∀ G0 : Hp, (∀ c, G0 c = none ∨ (c ∈ cs.map (·.2) ∧ G0 c = some (.tbl #[])) ∨ ∃ o xs, G0 c = some (.frz o (.lst xs))) → (∀ c ∈ cs.map (·.2), G0 c = some (.tbl #[])) → LstF K (fun c => G0 c ≠ none) G0 a (ns.map V.int) → HOk P w G0 s₁.heap → (∀ c, G0 c ≠ none → c = a ∨ c ∈ cs.map (·.2)) → (G0 a ≠ none → K.lookup a = none) →
      codeAny (model P w) callerA (.call (.ref fa) ⟨[.ref a], []⟩) (fun r s' => r = .ok (.ret (.bool true)) ∧ OldK s₁.heap s'.heap ∧ s'.os = s₁.os ∧ AllBare s'.gens) s₁ := fun G0 only stand scr ok atA notK => by
    -- the module's objects are neither the script nor a table
    have apart : ∀ {c : Addr} {o : Obj}, s₁.heap.get? c = some o → (c = a → G0 a = none) → (c ∈ cs.map (·.2) → False) → (hidT s₁.heap G0).get? c = some o := fun {c o} e n t => by
      refine hidT_get e ?_
      cases z : G0 c with
      | none => rfl
      | some u =>
        rcases atA c (by rw [z]; exact fun q => nomatch q) with ca | ct
        · rw [ca, n ca] at z
          cases z
        · exact (t ct).elim
    have noTab : ∀ {c : Addr} {o : Obj}, s₁.heap.get? c = some o → o.data ≠ .fields #[] → c ∈ cs.map (·.2) → False := fun {c o} e n t => by
      have q := (isTab c t).1
      rw [e] at q
      cases q
      exact n rfl
    have nspace : ∀ {c : Addr} {mm : Str → Option Value}, s₁.heap.Ns c mm → (hidT s₁.heap G0).Ns c mm := fun {c mm} z => by
      obtain ⟨o, es, ep, e, d, r⟩ := z
      refine ⟨o, es, ep, apart e (fun ca => ?_) (noTab e (by rw [d]; exact fun q => nomatch q)), d, r⟩
      rw [ca, ha] at e
      cases e
      cases (show Data.seq vs.toArray _ = Data.dict es ep from d)
    have kIn : K.In (hidT s₁.heap G0) := fun c o e => apart (KX c o e) (fun ca => by
      cases z : G0 a with
      | none => rfl
      | some u =>
        have := notK (by rw [z]; exact fun q => nomatch q)
        rw [ca, this] at e
        cases e) fun ct => by
      rw [(isTab c ct).2] at e
      cases e
    have limit : (hidT s₁.heap G0).NoLimit := by
      obtain ⟨mc, z1, z2⟩ := hlim
      exact ⟨mc, nspace z1, z2⟩
    have ground : Env0 P w K mg (hidT s₁.heap G0) callerA [] s₁ G0 := ⟨rfl, ⟨kIn, nspace hns, ⟨mb, nspace hb, hbb⟩, limit⟩, fun c o e => of_hidT e, Nat.le_of_eq (hidT_size _ _), trivial, fun c z => absurd (show c ∈ ([] : List Addr) from z) (by simp), ok, AllBare.of_eq hg⟩
    obtain ⟨ds, em⟩ := hm
    have lts : LTs G0 := ⟨fun q hq => LamX.TabS.nil (stand q.1 (own q hq)), fun p hp => by rw [nocd.1] at hp; cases hp⟩
    have start : spD K mg [.fz] .fz m [.ref a] G0 (fun v _ => v = .bl true) (fun _ _ _ => False) := by
      refine ⟨rfl, fun c => G0 c ≠ none, [], [.scr ns], ⟨fun _ z => z, fun _ z => (nomatch z), List.nodup_nil, fun _ z => (nomatch z)⟩, ⟨[], [], ⟨.scr scr, rfl⟩, ⟨rfl, lts, fun b hb => absurd hb (nocd.2 b)⟩, rfl⟩, ?_⟩
      rw [em]
      intro v H' F' A' B _ _ _ o
      cases o.1
      rfl
    have sys : SysOk (hidT s₁.heap G0) := by
      obtain ⟨⟨o, e, c⟩, o2, e2, c2⟩ := hsys
      refine ⟨⟨o, apart e (fun ca => ?_) (fun ct => ?_), c⟩, o2, apart e2 (fun ca => ?_) (fun ct => ?_), c2⟩
      · rw [ca, ha] at e
        cases e
        simp at c
      · rw [(isTab _ ct).1] at e
        cases e
        cases c
      · rw [ca, ha] at e2
        cases e2
        cases c2
      · rw [(isTab _ ct).1] at e2
        cases e2
        cases c2
    have tb : ∀ p ∈ cs, LamX.TabB (hidT s₁.heap G0) mg p.1 p.2 := fun p hp => by
      obtain ⟨h1, h2, hd⟩ := tabs p hp
      refine ⟨?_, ?_, fun z => ?_⟩
      · obtain ⟨o, us, f1, f2, f3, f4, f5, f6, f7, g1, g2, g3, g4, g5⟩ := hd
        refine ⟨o, us, f1, f2, f3, f4, f5, f6, f7, apart g1 (fun ca => ?_) (noTab g1 fun q => ?_), g2, g3, g4, g5⟩
        · rw [ca, ha] at g1
          cases g1
          cases g3
        · rw [g3] at q
          cases q
          simp at g4
      · obtain ⟨bm, ob, b1, b2, b3, b4, b5, b6⟩ := main
        have n1 : bm ≠ mainGlobals := fun q => by
          obtain ⟨o, es, ep, e, d, _⟩ := hns
          rw [q] at b3
          rw [b3] at e
          cases e
          rw [b6] at d
          cases d
        have n2 : bm ≠ p.2 := fun q => by
          rw [q, h1] at b3
          cases b3
          cases b6
        refine ⟨bm, ob, b1, b2, n1, n2, apart b3 (fun ca => ?_) (noTab b3 (by rw [b6]; exact fun q => nomatch q)), b4, b5, b6⟩
        rw [ca, ha] at b3
        cases b3
        cases b6
      · obtain ⟨o, es, ep, e, d, _⟩ := hns
        rw [z, h1] at e
        cases e
        cases d
    have ran := (F _ kIn (nspace hns) sys tb).run callerA [] s₁ G0 ⟨[.ref a], []⟩ [.ref a] [.ref a] _ _ hr rfl ground (hbind s₁ (.ref a)) (.cons rfl .nil) start
    refine codeAny_mono ran fun r s' z => ?_
    match r, z with
    | .error e, z =>
      obtain ⟨_, _, _, _, _, _, _, _, _, _, _, _, f⟩ := z
      exact f.elim
    | .ok (.ret u), ⟨v, H', z1, z2, z3, z4, z5, z6⟩ =>
      have ev : v = .bl true := z6
      subst ev
      have eu : u = Value.bool true := z5
      subst eu
      have grew : ∀ p ∈ cs, ∃ more : Array Value, s'.heap.get? p.2 = some { eTab with data := .fields (#[] ++ more) } := fun p hp => by
        obtain ⟨more, q⟩ := z3.tbls p.2 #[] (stand p.2 (List.mem_map.mpr ⟨p, hp, rfl⟩))
        exact ⟨more, z4 p.2 _ q⟩
      have kept : ∀ c o, c ∉ cs.map (·.2) → s₁.heap.get? c = some o → s'.heap.get? c = some o := fun c o nc e => by
        rcases only c with q | ⟨q, _⟩ | ⟨o2, xs, q⟩
        · exact z3.keep c o e q (fun f => absurd (show c ∈ ([] : List Addr) from f) (by simp)) (by simp)
        · exact absurd q nc
        · have k1 := (ok c _ q).1
          have k2 := (z4 c _ (z3.frzs c o2 _ q)).1
          rw [e] at k1
          cases k1
          exact k2
      refine ⟨rfl, ⟨fun c o e => ?_, fun c o e => ?_⟩, z1, z2⟩
      · by_cases hc : c ∈ cs.map (·.2)
        · obtain ⟨p, hp, rfl⟩ := List.mem_map.mp hc
          obtain ⟨h1, h2, hd⟩ := tabs p hp
          obtain ⟨more, q⟩ := grew p hp
          rw [h1] at e
          cases e
          exact .inr (.inl ⟨(hd.tab h1).isCodeTable, rfl, #[], more, rfl, q⟩)
        · exact .inl (kept c o hc e)
      · by_cases hc : c ∈ cs.map (·.2)
        · obtain ⟨p, hp, rfl⟩ := List.mem_map.mp hc
          obtain ⟨more, q⟩ := grew p hp
          exact ⟨_, q⟩
        · exact ⟨o, kept c o hc e⟩
  cases look : K.lookup a with
  | some o =>
    have e := KX a o look
    rw [ha] at e
    cases e
    have yes : ∀ c ∈ cs.map (·.2), (if c ∈ cs.map (·.2) then some (HO.tbl #[]) else none) = some (.tbl #[]) := fun c hc => if_pos hc
    refine byH (fun c => if c ∈ cs.map (·.2) then some (.tbl #[]) else none) (fun c => ?_) yes (.inr ⟨_, _, _, look, rfl, rfl, rfl, by rw [List.size_toArray, hi.length]; exact hl, relS⟩) (fun c u z => ?_) (fun c z => ?_) (fun z => absurd (if_neg aOut) z)
    · by_cases hc : c ∈ cs.map (·.2)
      · exact .inr (.inl ⟨hc, if_pos hc⟩)
      · exact .inl (if_neg hc)
    · by_cases hc : c ∈ cs.map (·.2)
      · cases (if_pos hc).symm.trans z
        exact (isTab c hc).1
      · cases (if_neg hc).symm.trans z
    · by_cases hc : c ∈ cs.map (·.2)
      · exact .inr hc
      · exact absurd (if_neg hc) z
  | none =>
    have self : (fun c => if c = a then some (HO.frz { cls := .type "list", data := .seq vs.toArray } (.lst (ns.map V.int))) else if c ∈ cs.map (·.2) then some (.tbl #[]) else none) a = some (.frz { cls := .type "list", data := .seq vs.toArray } (.lst (ns.map V.int))) := if_pos rfl
    have nota : ∀ c ∈ cs.map (·.2), ¬ c = a := fun c hc z => aOut (z ▸ hc)
    refine byH (fun c => if c = a then some (.frz { cls := .type "list", data := .seq vs.toArray } (.lst (ns.map V.int))) else if c ∈ cs.map (·.2) then some (.tbl #[]) else none) (fun c => ?_) (fun c hc => (if_neg (nota c hc)).trans (if_pos hc)) (.inl ⟨(by intro q; cases self.symm.trans q), .inr ⟨_, self⟩⟩) (fun c u z => ?_) (fun c z => ?_) fun _ => look
    · by_cases ca : c = a
      · exact .inr (.inr ⟨_, _, if_pos ca⟩)
      · by_cases hc : c ∈ cs.map (·.2)
        · exact .inr (.inl ⟨hc, (if_neg ca).trans (if_pos hc)⟩)
        · exact .inl ((if_neg ca).trans (if_neg hc))
    · by_cases ca : c = a
      · subst ca
        rw [self] at z
        cases z
        exact ⟨ha, by rw [List.length_map]; exact hl, vs, _, relS, ha⟩
      · by_cases hc : c ∈ cs.map (·.2)
        · cases ((if_neg ca).trans (if_pos hc)).symm.trans z
          exact (isTab c hc).1
        · cases ((if_neg ca).trans (if_neg hc)).symm.trans z
    · by_cases ca : c = a
      · exact .inl ca
      · by_cases hc : c ∈ cs.map (·.2)
        · exact .inr hc
        · exact absurd ((if_neg ca).trans (if_neg hc)) z
theorem law_holds {l : PySem.W.OpenLaw} {n k : Nat} {q : Program} {loose : List Str} {XP : (Str → Option Value) → Heap → Prop} {YP : World → Heap → Prop} {d : DefRec} {x : Str}
    (hn : l.most = some n) (hn2 : n ≤ sizeLine) (hdf : d.params.defaults = []) (hr : Room k callerA) (m : Mf)
    (F : ∀ (w : World) (mg : Str → Option Value) (fa : Addr) (h : Heap), YP w h → h.Ns mainGlobals mg → mg d.name = some (.ref fa) →
      ∃ (K : PySem.W.Frag) (fd : FuncData) (cs : List (Addr × Addr)) (nm : List Str), K.In h ∧ SysOk h ∧ (∀ p ∈ cs, h.get? p.2 = some eTab ∧ K.lookup p.2 = none ∧ PySem.W.CodeHd h p.1 p.2) ∧ (∀ (s : Shared) (u : Value), BindsTo s fd ⟨[u], []⟩ [(x, u)]) ∧
        ∀ base : Heap, K.In base → base.Ns mainGlobals mg → SysOk base → (∀ p ∈ cs, LamX.TabB base mg p.1 p.2) → @FnG l.prog w K mg base k fa fd [x] (@spD ⟨(cs.map (·.2)).zip nm, [], fun _ => False, fun _ => none⟩ K mg [.fz] .fz m))
    (hm : ∀ ns : List Int, ns.length ≤ n → (∀ z ∈ ns, Builtin.Int.intBits z ≤ 1048576) → ∃ ds, m [.scr ns] = .ok (.bl true) ds) :
    PySem.W.WalkO q loose XP YP l.row.toRowW d [] (fun f vs => PySem.call f vs) := by
  refine Att.attach_callB hn hdf fun w s₀ s₁ mg mb fa o pm cd doc a vs ns G Y ho hd hcd hmg hobj hints hlen hbits hg => ?_
  obtain ⟨K, fd, cs, nm, KX, hsys, ht, hb, hF⟩ := F w mg fa _ Y G.T.g hmg
  letI : LamT := ⟨(cs.map (·.2)).zip nm, [], fun _ => False, fun _ => none⟩
  exact law_run KX G.T.g G.T.b G.T.builtins G.T.nolimit hg ht (fun q hq => (List.of_mem_zip hq).1) ⟨rfl, fun _ z => z⟩ G.T.bmain hobj hints (Nat.le_trans hlen hn2) hr hsys hF hb (hm ns hlen hbits)

/-! ### what the head tells -/
def sysB (g : Addr → Option Obj) : Bool := (match g sysModules with
  | some ⟨.type c, _, _, _⟩ => c == "dict"
  | _ => false) && (match g cStatics with
  | some o => He.eqO (PySem.W.lookIn "thirdparty.any" o) (some none)
  | none => false)
theorem sysB_ok {h : Heap} (e : sysB h.get? = true) : SysOk h := by
  unfold sysB at e
  obtain ⟨e, e2⟩ := Bool.and_eq_true_iff.mp e
  constructor
  · cases q : h.get? sysModules with
    | none => rw [q] at e; cases e
    | some o =>
      obtain ⟨c, d, dt, sl⟩ := o
      rw [q] at e
      cases c with
      | type c =>
        have e' : c = "dict" := by simpa using e
        subst e'
        exact ⟨_, rfl, rfl⟩
      | _ => cases e
  · cases q : h.get? cStatics with
    | none => rw [q] at e2; cases e2
    | some o =>
      rw [q] at e2
      exact ⟨o, rfl, He.eqO_ok e2⟩
abbrev obsM (n : Nat) (fa : List He.Fa) (fn : List He.DefD) (ts : List He.Tab) (ex : PySem.W.Frag → Bool) (g : Addr → Option Obj) (tf : List He.Defn := []) : He.AlX × Bool := (He.obsX n fa fn ts tf ex g, sysB g)
def hookM (n : Nat) (fa : List He.Fa) (fn : List He.DefD) (ts : List He.Tab) (ex : PySem.W.Frag → Bool) (tf : List He.Defn := []) : PySem.W.Hook where
  α := He.AlX × Bool
  obs := fun s => obsM n fa fn ts ex s.heap.get? tf
  val := fun w => (He.valX fn ts w, true)
  says := fun w h => ∃ K : PySem.W.Frag, K.In h ∧ He.SaysX fa fn ts tf ex w h K ∧ SysOk h
  of := fun _ _ e => ⟨_, He.frT_in, He.saysX_of (congrArg (fun z : He.AlX × Bool => z.1) e), sysB_ok (congrArg (fun z : He.AlX × Bool => z.2) e)⟩
  keeps := fun _ _ _ ⟨K, hK, c, s⟩ k => ⟨K, PySem.W.Frag.In.keeps hK k, ⟨c.t, c.more, c.hd, c.out, fun p hp => k _ _ (c.empty p hp)⟩, s.keeps k⟩
theorem obsM_eq {n : Nat} {fa : List He.Fa} {fn : List He.DefD} {ts : List He.Tab} {ex : PySem.W.Frag → Bool} {tf : List He.Defn} {g : Addr → Option Obj} {s : Shared} (h : ∀ a, g a = s.heap.get? a) : obsM n fa fn ts ex g tf = (hookM n fa fn ts ex tf).obs s := by
  have e : g = s.heap.get? := funext h
  rw [e] <;> rfl
end DM
/-! DmM: data read by the library; built-in functions, methods of texts. -/
namespace DM
open PySem PySem.Spec PyProof.Rows L2
variable [LamT]

/-! ### data, as the library reads it -/
section
variable {X : Cx} {pins : List (Addr × Obj)} {σ : L2.St} {H : Hp} {F : FS} {s : Shared}
theorem not_sys {h : Heap} {a : Addr} {o : Obj} (x : SysOk h) (e : h.get? a = some o) (c : o.cls ≠ .type "dict") : sysModules ≠ a := fun z => by
  obtain ⟨⟨o', e', c'⟩, _⟩ := x
  rw [z, e] at e'
  cases e'
  exact c c'
theorem key_rd {k : Key} {d : D} {u : Value} (r : RelV (kV k) u) (x : KeyD k d) : Reads s.heap u d.py [] := by
  cases x with
  | int i => obtain ⟨t, rfl⟩ := r; exact .int i t
  | str y => obtain ⟨t, rfl⟩ := r; exact .str y t
theorem keys_rd : ∀ {ks : List Key} {ds : List D} {us : List Value}, Vals (ks.map kV) us → KeysD ks ds → ReadsAll s.heap us (pyAll ds) []
  | [], [], _, .nil, .nil => .nil
  | _ :: _, _ :: _, _, .cons r rs, .cons x xs => .cons (key_rd r x) (keys_rd rs xs)
theorem keyIs_rel {k : Key} {u : Value} (h : keyIs k u = true) : RelV (kV k) u := by
  rcases key_is h with ⟨i, t, rfl, rfl⟩ | ⟨x, t, rfl, rfl⟩
  · exact ⟨t, rfl⟩
  · exact ⟨t, rfl⟩
mutual
theorem Rp.rd (I : Inv X pins σ H s) (hs : SysOk s.heap) : ∀ {v d u}, Rp X.K F H v d → RelV v u → d.plain = true → ∃ as, Reads s.heap u d.py as ∧ sysModules ∉ as
  | _, _, u, .v x, r, p => by
    cases x with
    | non => cases r; exact ⟨[], .none, by simp⟩
    | bl b => cases r; exact ⟨[], .bool b, by simp⟩
    | int i => obtain ⟨t, rfl⟩ := r; exact ⟨[], .int i t, by simp⟩
    | str z => obtain ⟨t, rfl⟩ := r; exact ⟨[], .str z t, by simp⟩
    | byt b => cases p
    | flt b => cases p
    | ref b => cases p
    | ty b => cases p
  | _, _, u, .lst (a := a) f h rs, r, p => by
    cases r
    obtain ⟨its, n, rv, e, hz⟩ := I.lst h
    obtain ⟨as, q, na⟩ := Rps.rd I hs rs rv p
    refine ⟨a :: as, .list e rfl rfl (by simpa using q), fun z => ?_⟩
    rcases List.mem_cons.mp z with z | z
    · exact not_sys hs e (fun z => by simp at z) z
    · exact na z
  | _, _, u, .tup (a := a) h rs, r, p => by
    cases r
    obtain ⟨its, rv, ⟨o, e, c, n, d⟩, hz⟩ := I.tuple h.sq
    obtain ⟨as, q, na⟩ := Rps.rd I hs rs rv p
    exact ⟨as, .tuple e c d (by simpa using q), na⟩
  | _, _, u, .dK (a := a) f h _ rs, r, p => by
    cases r
    obtain ⟨hz, hd, vs, rel, o, es, ep, e, ex, dt, _, ps, _⟩ := dk_rd I.hok h
    obtain ⟨as, q1, q2, na⟩ := RpK.rd I hs rs rel p
    have conv : ∀ {l : List DictEntry} {vs : List (Key × Value)}, Pairs (mixKind X.prog X.w) l vs → ∃ us, Paired (fun (p : Key × Value) (u : Value) => keyIs p.1 u = true) vs us ∧ l.map (·.key) = us ∧ l.map (·.val) = vs.map (·.2) := fun {l vs} hp => by
      induction hp with
      | nil => exact ⟨[], .nil, rfl, rfl⟩
      | cons h1 h0 h2 ih =>
        obtain ⟨us, a1, a2, a3⟩ := ih
        exact ⟨_, .cons h1 a1, by rw [List.map_cons, a2], by rw [List.map_cons, List.map_cons, a3, h0]⟩
    obtain ⟨us, a1, a2, a3⟩ := conv ps
    refine ⟨a :: [] ++ as, .dict e ex.1 dt (by rw [a2]; exact q1 us a1) (by rw [a3]; exact q2), fun z => ?_⟩
    rcases List.mem_cons.mp z with z | z
    · rw [← z] at hd; cases hd
    · exact na z
  | _, _, u, .dT (a := a) f h _ rs, r, p => by
    cases r
    obtain ⟨hz, hd, xs, rel, o, es, ep, e, ex, dt, eq, _⟩ := dt_rd I.hok h
    obtain ⟨as, q1, q2, na⟩ := RpT.rd I hs rs rel p
    refine ⟨a :: [] ++ as, .dict e ex.1 dt ?_ ?_, fun z => ?_⟩
    · rw [eq, List.map_map]; exact q1
    · rw [eq, List.map_map]; exact q2
    · rcases List.mem_cons.mp z with z | z
      · rw [← z] at hd; cases hd
      · exact na z
  | _, _, u, .scr (a := a) (ns := ns) h, r, p => by
    cases r
    obtain ⟨its, rv, pl, hz⟩ := I.list h.sq
    obtain ⟨o, n, e, c, _, d⟩ := pl
    have rdi : ∀ (ns : List Int) (us : List Value), Vals (ns.map V.int) us → ReadsAll s.heap us (ns.map PyData.int) [] := fun ns => by
      induction ns with
      | nil => intro us h; cases h; exact .nil
      | cons n ns ih =>
        intro us h
        cases h with
        | cons r rr =>
          obtain ⟨t, rfl⟩ := r
          exact .cons (.int n t) (ih _ rr)
    refine ⟨a :: [], .list e c d (by simpa using rdi ns its rv), fun z => ?_⟩
    rcases List.mem_cons.mp z with z | z
    · exact not_sys hs e (fun z => by rw [c] at z; simp at z) z
    · cases z
  | _, _, u, .ex _ _ _ _ _, r, p => by cases p
theorem Rps.rd (I : Inv X pins σ H s) (hs : SysOk s.heap) : ∀ {vs ds us}, Rps X.K F H vs ds → Vals vs us → plainAll ds = true → ∃ as, ReadsAll s.heap us (pyAll ds) as ∧ sysModules ∉ as
  | _, _, _, .nil, .nil, _ => ⟨[], .nil, by simp⟩
  | _, _, _, .cons h rs, .cons r rr, p => by
    obtain ⟨p1, p2⟩ := Bool.and_eq_true_iff.mp (show (_ && _) = true from p)
    obtain ⟨as, q1, n1⟩ := Rp.rd I hs h r p1
    obtain ⟨bs, q2, n2⟩ := Rps.rd I hs rs rr p2
    exact ⟨_, .cons q1 q2, fun z => (List.mem_append.mp z).elim n1 n2⟩
theorem RpK.rd (I : Inv X pins σ H s) (hs : SysOk s.heap) : ∀ {kvs ds} {vs : List (Key × Value)}, RpK X.K F H kvs ds → KV kvs vs → plainKv ds = true →
    ∃ as, (∀ us, Paired (fun (p : Key × Value) (u : Value) => keyIs p.1 u = true) vs us → ReadsAll s.heap us ((pyKv ds).map (·.1)) []) ∧ ReadsAll s.heap (vs.map (·.2)) ((pyKv ds).map (·.2)) as ∧ sysModules ∉ as
  | _, _, _, .nil, .nil, _ => ⟨[], fun us h => by cases h; exact .nil, .nil, by simp⟩
  | _, _, _, .cons hk h rs, .cons r rr, p => by
    obtain ⟨p1, p3⟩ := Bool.and_eq_true_iff.mp (show (_ && _) = true from p)
    obtain ⟨p1, p2⟩ := Bool.and_eq_true_iff.mp p1
    obtain ⟨as, q1, n1⟩ := Rp.rd I hs h r.2 p2
    obtain ⟨bs, q2, q3, n2⟩ := RpK.rd I hs rs rr p3
    refine ⟨_, fun us hu => ?_, .cons q1 q3, fun z => (List.mem_append.mp z).elim n1 n2⟩
    cases hu with
    | cons a b =>
      have e := keyIs_rel a
      rw [← r.1] at e
      exact .cons (key_rd e hk) (q2 _ b)
theorem RpT.rd (I : Inv X pins σ H s) (hs : SysOk s.heap) : ∀ {kvs ds} {xs : List (List Key × Addr × Value)}, RpT X.K F H kvs ds → Paired (fun (p : List Key × V) (q : List Key × Addr × Value) => p.1 = q.1 ∧ H q.2.1 = some (.tup (p.1.map kV)) ∧ RelV p.2 q.2.2) kvs xs → plainKv ds = true →
    ∃ as, ReadsAll s.heap (xs.map ((·.key) ∘ entryOfKey (tupleKind (mixKind X.prog X.w)))) ((pyKv ds).map (·.1)) [] ∧ ReadsAll s.heap (xs.map ((·.val) ∘ entryOfKey (tupleKind (mixKind X.prog X.w)))) ((pyKv ds).map (·.2)) as ∧ sysModules ∉ as
  | _, _, _, .nil, .nil, _ => ⟨[], .nil, .nil, by simp⟩
  | _, _, _, .cons hk h rs, .cons r rr, p => by
    obtain ⟨p1, p3⟩ := Bool.and_eq_true_iff.mp (show (_ && _) = true from p)
    obtain ⟨p1, p2⟩ := Bool.and_eq_true_iff.mp p1
    obtain ⟨as, q1, n1⟩ := Rp.rd I hs h r.2.2 p2
    obtain ⟨bs, q2, q3, n2⟩ := RpT.rd I hs rs rr p3
    obtain ⟨_, its, rv, o, e, c, n, d⟩ := I.hok _ _ r.2.1
    have kr : Reads s.heap (.ref _) (PyData.tuple _) [] := .tuple e c d (by simpa using keys_rd rv hk.1)
    exact ⟨_, ReadsAll.cons (as := []) (bs := []) kr q2, .cons q1 q3, fun z => (List.mem_append.mp z).elim n1 n2⟩
end
end

/-! ### built-in functions: a value of what stands now -/
def VCallV (K : PySem.W.Frag) (r : List V → Hp → VK → Prop) (f : List D → Option V) : Prop :=
  ∀ H xs es v (Q : VK), Rps K (fun _ => True) H xs es → f es = some v → Q v H → r xs H Q
def DAc (X : Cx) (W : WX) (p : Bool) (G : List Sh) (es : List Expr) (m : Mi (List D)) : Prop := ∃ t, PA X es t ∧ Tl X W p (fun F H vs ds => Rps X.K (fun _ => True) H vs ds) G t m
def eB (f : List D → Option V) (ma : Mi (List D)) : Mi D := bnd ma fun es => lift ((f es).map D.v)
theorem Rps.rc {K : PySem.W.Frag} {F : FS} {H : Hp} {vs ds} (h : Rps K F H vs ds) : Rps K (fun _ => True) H vs ds := h.mono ⟨fun _ _ => trivial, fun _ _ _ h => .inl h⟩
theorem Rps.later {K : PySem.W.Frag} {F F1 : FS} {H H1 : Hp} {vs ds} (s : Pst F H F1 H1) (r : Rps K (fun _ => True) H vs ds) : Rps K (fun _ => True) H1 vs ds :=
  r.mono ⟨fun _ h => h, fun a o _ e => s.keep a o e⟩
section
variable {X : Cx} {W : WX} {p p1 p2 p3 : Bool} {G : List Sh} {e a b c o : Expr} {es : List Expr} {pos q apos cpos : Pos} {x name : Str} {id T : String} {r : List V → Hp → VK → Prop} {f : List D → Option V} {ma : Mi (List D)}
theorem dac_one {m : Mi D} (h : DC X W p G e m) (hs : starEach [e] X.env = (false, eval e X.env) :: starEach [] X.env := by rfl) : DAc X W (p && (true && true)) G [e] (aCons m aNil) := by
  obtain ⟨t, pe, l⟩ := h
  refine ⟨_, pa_cons pe pa_nil hs, fun F H A σ ρ Q wf en hp => ?_⟩
  refine l.use wf en hp fun d1 ρ1 x H1 F1 A1 s1 wf1 en1 r1 _ hp => ?_
  exact hp.fin0 wf1 en1 (.cons r1 .nil)
theorem dac_of {m : Mi (List D)} (h : DA X W p G es m) : DAc X W p G es m := by
  obtain ⟨t, pe, l⟩ := h
  refine ⟨t, pe, fun F H A σ ρ Q wf en hp => l F H A σ ρ Q wf en ?_⟩
  cases e : m ρ with
  | ok a ρ' => rw [e] at hp; exact fun b H' F' A' st wf' en' r pp => hp b H' F' A' st wf' en' r.1.rc pp
  | exc x ρ' => rw [e] at hp; exact hp
  | bad => rw [e] at hp; exact hp
theorem de_b (hc : CallR X (.builtin id) r) (hf : VCallV X.K r f) (hg : Gl X x) (hm : X.mg x = none) (hv : bootBuiltins x = some (.builtin id)) (ha : DAc X W p G (e :: es) ma) (hn : x ≠ "__name__" := by decide) (hdb : (x == ("__debug__" : Str)) = false := by decide)
    (he : starEach (e :: es) X.env = (false, eval e X.env) :: starEach es X.env := by rfl) (hpl : (backTo pos (starEach es X.env)).any (·.1) = false := by rfl) : DE X W (p && true) G (.Call (.Name x q) (e :: es) [] pos) (eB f ma) := by
  obtain ⟨t, pe, l⟩ := ha
  refine ⟨_, pe_callB hc hg hm hv pe hn hdb he hpl, fun F H A σ ρ Q wf en hp => ?_⟩
  refine l.use wf en hp fun d1 ρ1 x H1 F1 A1 s1 wf1 en1 r1 _ hp => ?_
  obtain ⟨d, e, hp⟩ := hp.lift
  obtain ⟨v, e1, e2⟩ := Option.map_eq_some_iff.mp e
  subst e2
  exact hf H1 x d1 v Q r1 e1 (hp.fin0 wf1 en1 (.v _))
theorem de_bty {n : String} (hg : Gl X x) (hm : X.mg x = none) (hv : bootBuiltins x = some (.type n)) (hn : x ≠ "__name__" := by decide) (hd : (x == ("__debug__" : Str)) = false := by decide) : DE X W true G (.Name x pos) (eK (.v (.ty n))) :=
  ⟨_, pe_bltn (v := .ty n) hg hm hv rfl hn hd, fun F H A σ ρ Q wf en hp => hp.fin0 wf en (.v _)⟩

/-! len, abs, .. -/
def bLen : List D → Option V
  | [.lst xs] => some (.int xs.length)
  | [.tup xs] => some (.int xs.length)
  | [.scr xs] => some (.int xs.length)
  | [.v (.str s)] => if s.length ≤ 16777216 then some (.int s.length) else none
  | _ => none
theorem rps1 {K : PySem.W.Frag} {F : FS} {H : Hp} {xs : List V} {d : D} (r : Rps K F H xs [d]) : ∃ v, xs = [v] ∧ Rp K F H v d := by
  cases r with
  | cons r1 r2 => cases r2; exact ⟨_, rfl, r1⟩
theorem rps2 {K : PySem.W.Frag} {F : FS} {H : Hp} {xs : List V} {d d2 : D} (r : Rps K F H xs [d, d2]) : ∃ v w, xs = [v, w] ∧ Rp K F H v d ∧ Rp K F H w d2 := by
  cases r with
  | cons r1 r2 =>
    obtain ⟨w, rfl, r3⟩ := rps1 r2
    exact ⟨_, w, rfl, r1, r3⟩
theorem vb_len : VCallV X.K (fun xs H Q => ∃ x n, xs = [x] ∧ LenV X.K x H n ∧ Q (.int n) H) bLen := by
  intro H xs es v Q r e k
  unfold bLen at e
  split at e
  · cases e
    obtain ⟨u, rfl, t⟩ := rps1 r
    cases t with
    | lst f h r => exact ⟨_, _, rfl, .inl ⟨_, SqL.of h, rfl⟩, by rw [r.length]; exact k⟩
  · cases e
    obtain ⟨u, rfl, t⟩ := rps1 r
    cases t with
    | tup h r => exact ⟨_, _, rfl, .inr ⟨_, h.sq, rfl⟩, by rw [r.length]; exact k⟩
  · cases e
    obtain ⟨u, rfl, t⟩ := rps1 r
    cases t with
    | scr h => exact ⟨_, _, rfl, .inl ⟨_, h.sq, rfl⟩, by rw [List.length_map]; exact k⟩
  · split at e
    · cases e
      obtain ⟨u, rfl, t⟩ := rps1 r
      cases t
      exact ⟨_, _, rfl, ⟨by rw [szl]; assumption, rfl⟩, k⟩
    · cases e
  · cases e
def bAbs : List D → Option V
  | [.v (.int i)] => some (.int (if i < 0 then -i else i))
  | _ => none
theorem vb_abs {K : PySem.W.Frag} : VCallV K (fun xs H Q => ∃ i, xs = [.int i] ∧ Q (.int (if i < 0 then -i else i)) H) bAbs := by
  intro H xs es v Q r e k
  unfold bAbs at e
  split at e
  · cases e
    obtain ⟨u, rfl, t⟩ := rps1 r
    cases t
    exact ⟨_, rfl, k⟩
  · cases e
def bMin : List D → Option V
  | [.v (.int i), .v (.int j)] => some (.int (if j < i then j else i))
  | _ => none
def bMax : List D → Option V
  | [.v (.int i), .v (.int j)] => some (.int (if j > i then j else i))
  | _ => none
theorem vb_min {K : PySem.W.Frag} : VCallV K (fun xs H Q => ∃ i j, xs = [.int i, .int j] ∧ Q (.int (if j < i then j else i)) H) bMin := by
  intro H xs es v Q r e k
  unfold bMin at e
  split at e
  · cases e
    obtain ⟨u, w, rfl, t, t2⟩ := rps2 r
    cases t; cases t2
    exact ⟨_, _, rfl, k⟩
  · cases e
def asBs : List D → Option (List Bool)
  | [] => some []
  | d :: ds => (asB d).bind fun b => (asBs ds).map (b :: ·)
def asS : D → Option Str
  | .v (.str s) => some s
  | _ => none
theorem bs_of {K : PySem.W.Frag} {F : FS} {H : Hp} : ∀ {vs ds bs}, Rps K F H vs ds → asBs ds = some bs → vs = bs.map V.bl
  | _, _, bs, .nil, e => by cases e; rfl
  | _, _, bs, .cons r rs, e => by
    obtain ⟨b, h1, h2⟩ := Option.bind_eq_some_iff.mp e
    obtain ⟨l, h3, h4⟩ := Option.map_eq_some_iff.mp h2
    subst h4
    rw [asB_v r h1, bs_of rs h3]; rfl
def bAll : List D → Option V
  | [.lst ds] => (asBs ds).map fun bs => .bl (bs.all _root_.id)
  | _ => none
theorem vb_all {K : PySem.W.Frag} : VCallV K (rAll K) bAll := by
  intro H xs es v Q r e k
  unfold bAll at e
  split at e
  · obtain ⟨bs, h1, h2⟩ := Option.map_eq_some_iff.mp e
    subst h2
    obtain ⟨u, rfl, t⟩ := rps1 r
    cases t with
    | lst f h r => exact ⟨_, bs, rfl, SqL.of (by rw [← bs_of r h1]; exact h), k⟩
  · cases e
/-! isinstance -/
def tyN : D → Option String
  | .v x => match x with
    | .non => some "NoneType"
    | .bl _ => some "bool"
    | .int _ => some "int"
    | .str _ => some "str"
    | _ => none
  | .lst _ => some "list"
  | .tup _ => some "tuple"
  | .dct _ => some "dict"
  | .dcT _ => some "dict"
  | .scr _ => some "list"
  | .ex _ _ => none
def isTy (n m : String) : Bool := n == m || (n == "bool" && m == "int")
def bIsi : List D → Option V
  | [d, .v (.ty m)] => (tyN d).bind fun n => if ["int", "str", "bool", "list", "tuple", "dict"].contains m then some (.bl (isTy n m)) else none
  | _ => none
def rIsD (K : PySem.W.Frag) : List V → Hp → VK → Prop := fun xs H Q => ∃ x d n m, xs = [x, .ty m] ∧ Rp K (fun _ => True) H x d ∧ tyN d = some n ∧ ["int", "str", "bool", "list", "tuple", "dict"].contains m = true ∧ Q (.bl (isTy n m)) H
theorem kit_all : (["NoneType", "bool", "int", "str", "list", "tuple", "dict"].all fun n => ["int", "str", "bool", "list", "tuple", "dict"].all fun m => kitB n m == some (isTy n m)) = true := by decide +kernel
theorem tyN_mem {d : D} {n : String} (h : tyN d = some n) : n ∈ ["NoneType", "bool", "int", "str", "list", "tuple", "dict"] := by
  cases d with
  | v x => cases x <;> first | (cases h; simp) | cases h
  | ex c fs => cases h
  | _ => cases h; simp
theorem kit_d {pins : List (Addr × Obj)} {σ : L2.St} {H : Hp} {F : FS} {s : Shared} {v : V} {u : Value} {d : D} {n : String} (I : Inv X pins σ H s) (r : RelV v u) (h : Rp X.K F H v d) (e : tyN d = some n) : ∃ P : Heap → Prop, PySem.W.KitX X.K u (.type n) P ∧ P s.heap ∧ u ≠ .builtin "__main__.__loader__#opaque" := by
  cases h with
  | v =>
    cases v with
    | non => cases e; cases r; exact ⟨_, PySem.W.kitx_none, True.intro, fun z => nomatch z⟩
    | bl b => cases e; cases r; exact ⟨_, PySem.W.kitx_bool, True.intro, fun z => nomatch z⟩
    | int i => cases e; obtain ⟨t, rfl⟩ := r; exact ⟨_, PySem.W.kitx_int, True.intro, fun z => nomatch z⟩
    | str i => cases e; obtain ⟨t, rfl⟩ := r; exact ⟨_, PySem.W.kitx_str, True.intro, fun z => nomatch z⟩
    | _ => cases e
  | lst f h rs =>
    cases e; cases r
    obtain ⟨its, k, rv, e, hz⟩ := I.lst h
    exact ⟨_, PySem.W.kitx_list, ⟨_, e, rfl⟩, fun z => nomatch z⟩
  | tup h rs =>
    cases e; cases r
    obtain ⟨its, rv, ⟨o, e, c, k, dd⟩, hz⟩ := I.tuple h.sq
    exact ⟨_, PySem.W.kitx_tuple, ⟨o, e, c⟩, fun z => nomatch z⟩
  | dK f h _ rs =>
    cases e; cases r
    obtain ⟨hz, hd, vs, rel, o, es, ep, e, ex, _⟩ := dk_rd I.hok h
    exact ⟨_, PySem.W.kitx_dict, ⟨o, e, ex.1⟩, fun z => nomatch z⟩
  | dT f h _ rs =>
    cases e; cases r
    obtain ⟨hz, hd, vs, rel, o, es, ep, e, ex, _⟩ := dt_rd I.hok h
    exact ⟨_, PySem.W.kitx_dict, ⟨o, e, ex.1⟩, fun z => nomatch z⟩
  | scr h =>
    cases e; cases r
    obtain ⟨its, rv, ⟨o, k, e, c, _, dd⟩, hz⟩ := I.list h.sq
    exact ⟨_, PySem.W.kitx_list, ⟨o, e, c⟩, fun z => nomatch z⟩
  | ex _ _ _ _ _ => cases e
theorem call_isD : CallR X (.builtin "isinstance") (rIsD X.K) := by
  intro pins s σ H xs us Q I r h
  obtain ⟨x, d, n, m, rfl, rp, e, hm, q⟩ := h
  obtain ⟨u1, u2, rfl, r1, r2⟩ := vals2 r
  cases (show u2 = Value.type m from r2)
  obtain ⟨P, Z, p, hx⟩ := kit_d I r1 rp e
  have k1 := List.all_eq_true.mp (List.all_eq_true.mp kit_all n (tyN_mem e)) m (by simpa using hm)
  have k2 : kitB n m = some (isTy n m) := by simpa using k1
  exact PySem.W.kia_one Z I.kIn p (kit_ty k2) hx fun tk => ⟨.bl _, H, I.tok tk, rfl, q⟩
theorem vb_isi {K : PySem.W.Frag} : VCallV K (rIsD K) bIsi := by
  intro H xs es v Q r e k
  unfold bIsi at e
  split at e
  · obtain ⟨n, h1, h2⟩ := Option.bind_eq_some_iff.mp e
    split at h2
    · cases h2
      obtain ⟨u, w, rfl, t, t2⟩ := rps2 r
      cases t2
      exact ⟨u, _, n, _, rfl, t, h1, by assumption, k⟩
    · cases h2
  · cases e

/-! repr -/
def bRepr : List D → Option V
  | [d] => if d.plain = true ∧ d.py.showable = true ∧ d.py.depth ≤ 60 ∧ d.py.shown.length ≤ 16777216 then some (.str d.py.shown) else none
  | _ => none
/-! ### methods of texts -/
def eSm (f : Str → List D → Option V) (mo : Mi D) (ma : Mi (List D)) : Mi D := bnd mo fun x => match asS x with
  | some z => bnd ma fun es => lift ((f z es).map D.v)
  | none => fun _ => .bad
end

/-! ### how a def binds -/
section
variable {K : PySem.W.Frag} {x qual : Str} {params : Arguments} {body : List Stmt} {scope : Scope} {f : Addr} {fd : FuncData} {ps : List Str}
theorem kbn_ofD (Fn : FunD K x qual params body scope [] [] f fd) (n : Nat) (ks : List Str) (π : List Nat)
    (h : ∀ (kV doc pm : Value) (an : Option Addr) (cdv ct : Value) (us ws : List Value), us.length = n → ws.length = ks.length → bindArgs (PySem.W.fnOf x qual params body scope .none kV doc pm an cdv ct) ⟨us, ks.zip ws⟩ = pure (ps.zip (perm .none π (us ++ ws)))) :
    KBn K fd ps n ks (fun us ws => perm .none π (us ++ ws)) (fun vs zs => perm .non π (vs ++ zs)) := by
  obtain ⟨oc, od, dV, kV, doc, pm, an, cdv, ct, osl, rfl, lk, hcd, hD, hK⟩ := Fn.ex
  rcases hD with ⟨_, rfl⟩ | ⟨e, _⟩
  · exact ⟨fun s us ws X l1 l2 => .of_eq (h kV doc pm an cdv ct us ws l1 l2), fun r1 r2 => vals_perm (r1.append r2) π⟩
  · exact absurd rfl e
theorem kpos_ofD (Fn : FunD K x qual params body scope [] [] f fd)
    (h : ∀ (kV doc pm : Value) (an : Option Addr) (cdv ct : Value) (us : List Value), us.length = ps.length → bindArgs (PySem.W.fnOf x qual params body scope .none kV doc pm an cdv ct) ⟨us, []⟩ = pure (ps.zip us)) :
    KBn K fd ps ps.length [] (fun us ws => us) (fun vs zs => vs) := by
  obtain ⟨oc, od, dV, kV, doc, pm, an, cdv, ct, osl, rfl, lk, hcd, hD, hK⟩ := Fn.ex
  rcases hD with ⟨_, rfl⟩ | ⟨e, _⟩
  · exact ⟨fun s us ws X l1 l2 => .of_eq (h kV doc pm an cdv ct us l1), fun r1 r2 => r1⟩
  · exact absurd rfl e
end
end DM
/-! DmN: what the written derivations use. -/
namespace DM
open PySem PySem.Spec PyProof.Rows L2
variable [LamT]
theorem fa_nil {α : Type} {P : α → Prop} : ∀ j ∈ ([] : List α), P j := fun _ h => nomatch h
theorem fa_cons {α : Type} {P : α → Prop} {i : α} {l : List α} (h : P i) (t : ∀ j ∈ l, P j) : ∀ j ∈ i :: l, P j := fun j hj => by
  rcases List.mem_cons.mp hj with e | e
  · rw [e]; exact h
  · exact t j e
theorem u64 {k : Nat} {A : Around} (h : Room k A) : A.units + 64 < cLine := by have := h.un; omega
theorem u65 {k : Nat} {A : Around} (h : Room k A) : A.units + 65 < cLine := by have := h.un; omega
theorem gv_int {K : PySem.W.Frag} (i : Int) : GV K (.int i) (.int i) := fun _ _ => .v _
theorem gv_str {K : PySem.W.Frag} (i : Str) : GV K (.str i) (.str i) := fun _ _ => .v _
def slX : D → Option Int → Option Int → Option D
  | .tup xs, lo, hi => some (.tup (cutL xs lo hi))
  | .lst xs, lo, hi => some (.lst (cutL xs lo hi))
  | .v (.str s), lo, hi => if s.length ≤ sizeLine then some (.str (cutS s lo hi)) else none
  | .scr ns, lo, hi => some (.lst ((cutL ns lo hi).map D.int))
  | _, _, _ => none
theorem cutL_map {α β : Type} (f : α → β) (xs : List α) (lo hi : Option Int) : cutL (xs.map f) lo hi = (cutL xs lo hi).map f := by
  unfold cutL
  rw [List.length_map, ← List.map_drop, ← List.map_take]
section
variable {X : Cx} {W : WX} {p p1 p2 p3 : Bool} {G : List Sh} {e a b c o : Expr} {es : List Expr} {pos q q2 apos cpos : Pos} {lo hi : Option Expr}
theorem de_slX {ma : Mi D} {ml mh : Mi (Option Int)} (ha : DR X W p1 G a ma) (hl : DP X W true G lo ml) (hh : DP X W true G hi mh) : DE X W (p1 && (true && (true && true))) G (.Subscript a (.Slice lo hi none q2) pos) (eSl slX ma ml mh) := by
  obtain ⟨ta, pa, la⟩ := ha
  obtain ⟨tl, pl, ll⟩ := hl
  obtain ⟨th, ph, lh⟩ := hh
  refine ⟨_, pe_slice (sl_tupN.or (sl_str.or sl_list)) pa pl ph, fun F H A σ ρ Q wf en hp => ?_⟩
  refine la.use wf en hp fun d1 ρ1 x H1 F1 A1 s1 wf1 en1 r1 _ hp => ?_
  refine ll.use wf1 en1 hp fun lo ρ2 lo' H2 F2 A2 s2 wf2 en2 el p2 hp => ?_
  refine lh.use wf2 en2 hp fun hi ρ3 hi' H3 F3 A3 s3 wf3 en3 eh p3 hp => ?_
  subst el; subst eh
  obtain ⟨d, e, hp⟩ := hp.lift
  have r3 := (r1.later (p2 rfl)).later (p3 rfl)
  unfold slX at e
  split at e
  · cases e
    rcases r3 with h | ⟨q, vs, ds, rfl, e2, h, r⟩ | ⟨q, vs, ds, rfl, e2, h, r⟩ | ⟨q, vs, ds, rfl, e2, h, r⟩
    · cases h with
      | tup h r =>
        refine .inl ⟨_, _, rfl, h.sq, fun hw => ?_, fun hw q o hq ho => hp.fin wf3 en3 (Pst.lay hq) (rp_new_tup hq ho (cut_rps r _ _))⟩
        refine hp.fin0 wf3 en3 ?_
        rw [cut_whole (by rw [← r.length]; exact hw)]
        exact .tup h r
    · cases e2
    · cases e2
    · cases e2
  · cases e
    rcases r3 with h | ⟨q, vs, ds, rfl, e2, h, r⟩ | ⟨q, vs, ds, rfl, e2, h, r⟩ | ⟨q, vs, ds, rfl, e2, h, r⟩
    · cases h with
      | lst f h r => exact .inr (.inr ⟨_, _, rfl, SqL.of h, fun q hq => hp.fin wf3 en3 (Pst.lay hq) (rp_new_lst hq (cut_rps r _ _))⟩)
    · cases e2
      exact .inr (.inr ⟨_, _, rfl, SqL.of h, fun q hq => hp.fin wf3 en3 (Pst.lay hq) (rp_new_lst hq (cut_rps r _ _))⟩)
    · cases e2
    · cases e2
  · split at e
    · cases e
      rcases r3 with h | ⟨q, vs, ds, rfl, e2, h, r⟩ | ⟨q, vs, ds, rfl, e2, h, r⟩ | ⟨q, vs, ds, rfl, e2, h, r⟩
      · cases h
        exact .inr (.inl ⟨_, rfl, by assumption, hp.fin0 wf3 en3 (.v _)⟩)
      all_goals cases e2
    · cases e
  · cases e
    rcases r3 with h | ⟨q, vs, ds, rfl, e2, h, r⟩ | ⟨q, vs, ds, rfl, e2, h, r⟩ | ⟨q, vs, ds, rfl, e2, h, r⟩
    · cases h with
      | scr h =>
        refine .inr (.inr ⟨_, _, rfl, h.sq, fun q hq => hp.fin wf3 en3 (Pst.lay hq) (rp_new_lst hq ?_)⟩)
        rw [← cutL_map D.int]
        exact cut_rps (Rps.ints _) _ _
    · cases e2
    · cases e2
    · cases e2
  · cases e
def eDnew : Mi D := ret (.dct [])
def opIadd : D → D → Option D
  | .v (.int i), .v (.int j) => some (.int (i + j))
  | .v (.str x), .v (.str y) => if x.length + y.length ≤ sizeLine then some (.str (x ++ y)) else none
  | _, _ => none
def rIadd : R2 := fun x y H Q => rI0 (fun i j => .int (i + j)) x y H Q ∨ ∃ i j, x = .str i ∧ y = .str j ∧ i.length + j.length ≤ sizeLine ∧ Q (.str (i ++ j)) H
theorem iop_addX : OpR X (inplaceOp .Add) rIadd := iop_add.or iop_add_str
theorem vop_iadd : VOp X.K rIadd opIadd := by
  intro F H x y d1 d2 d Q w rx ry e k
  unfold opIadd at e
  split at e
  · cases rx; cases ry; cases e; exact .inl ⟨_, _, rfl, rfl, k _ H F Pst.refl (.v _)⟩
  · cases rx; cases ry
    split at e
    · cases e; exact .inr ⟨_, _, rfl, rfl, by assumption, k _ H F Pst.refl (.v _)⟩
    · cases e
  · cases e
theorem de_globI {x : Str} {i : Int} {t : Tok} (hg : Gl X x) (hm : X.mg x = some (.int i t)) (hdb : (x == ("__debug__" : Str)) = false := by decide) : DE X W true G (.Name x pos) (eK (.int i)) := de_glob (v := .int i) hg hm ⟨_, rfl⟩ (gv_int _) hdb
theorem de_globS {x : Str} {i : Str} {t : Tok} (hg : Gl X x) (hm : X.mg x = some (.str i t)) (hdb : (x == ("__debug__" : Str)) = false := by decide) : DE X W true G (.Name x pos) (eK (.str i)) := de_glob (v := .str i) hg hm ⟨_, rfl⟩ (gv_str _) hdb
end
end DM
/-! DmR: zip, enumerate, tuple(..), list(..). -/
namespace DM
open PySem PySem.Spec PyProof.Rows L2
variable [LamT]
def pairD (p : D × D) : D := .tup [p.1, p.2]
def zipOf : List D → Option (List D)
  | [.tup xs, .tup ys] => some ((xs.zip ys).map pairD)
  | [.lst xs, .lst ys] => some ((xs.zip ys).map pairD)
  | _ => none
def iZip (m : Mi (List D)) : Mi (List D) := bnd m fun xs => lift (zipOf xs)
def enumFrom (i : Nat) : List D → List D
  | [] => []
  | d :: ds => .tup [.int (i : Int), d] :: enumFrom (i + 1) ds
def enumOf : List D → Option (List D)
  | [.lst xs] => some (enumFrom 0 xs)
  | _ => none
def iEnumM (m : Mi (List D)) : Mi (List D) := bnd m fun xs => lift (enumOf xs)
section
variable {X : Cx} {W : WX} {p p1 p2 : Bool} {G : List Sh} {e a b : Expr} {elts : List Expr} {kk : Nat} {pos q tpos : Pos} {F F1 : FS} {H H1 : Hp}
theorem zip_get {xs ys : List D} {i : Nat} {d : D} (h : ((xs.zip ys).map pairD)[i]? = some d) : ∃ x y, xs[i]? = some x ∧ ys[i]? = some y ∧ d = .tup [x, y] := by
  rw [List.getElem?_map] at h
  obtain ⟨⟨x, y⟩, h1, h2⟩ := Option.map_eq_some_iff.mp h
  obtain ⟨a, b⟩ := List.getElem?_zip_eq_some.mp h1
  exact ⟨x, y, a, b, h2.symm⟩
theorem pair_new {K : PySem.W.Frag} {T : Addr} {x y : V} {dx dy : D} {o : Obj} (hT : H T = none) (ho : o.dict = none) (rx : Rp K F H x dx) (ry : Rp K F H y dy) : ∃ F2, Pst F H F2 (upd H T (TO o [x, y])) ∧ Rp K F2 (upd H T (TO o [x, y])) (.ref T) (.tup [dx, dy]) :=
  ⟨_, Pst.lay hT, rp_new_tup hT ho (.cons rx (.cons ry .nil))⟩
theorem enum_len : ∀ (xs : List D) (i : Nat), (enumFrom i xs).length = xs.length
  | [], _ => rfl
  | _ :: xs, i => congrArg (· + 1) (enum_len xs (i + 1))
theorem enum_get : ∀ {xs : List D} {k i : Nat} {d : D}, (enumFrom k xs)[i]? = some d → ∃ x, xs[i]? = some x ∧ d = .tup [.int ((k + i : Nat) : Int), x]
  | [], _, _, _, h => by simp [enumFrom] at h
  | x :: xs, k, 0, d, h => by
    simp [enumFrom] at h
    exact ⟨x, rfl, h.symm⟩
  | x :: xs, k, i + 1, d, h => by
    obtain ⟨y, h1, h2⟩ := enum_get (xs := xs) (k := k + 1) (i := i) (by simpa [enumFrom] using h)
    exact ⟨y, by simpa using h1, by rw [h2, show k + 1 + i = k + (i + 1) by omega]⟩
/-! ### tuple(..), list(..) -/
def tupD : D → Option D
  | .lst xs => some (.tup xs)
  | .tup xs => some (.tup xs)
  | .scr ns => some (.tup (ns.map D.int))
  | _ => none
theorem de_tupc {m : Mi D} (hg : Gl X "tuple") (hm : X.mg "tuple" = none) (ha : DR X W p G a m) (hb : bootBuiltins "tuple" = some (.type "tuple")) (hs : starEach [a] X.env = (false, eval a X.env) :: starEach [] X.env := by rfl) (hpl : (backTo pos (starEach [] X.env)).any (·.1) = false := by rfl) :
    DE X W (p && true) G (.Call (.Name "tuple" q) [a] [] pos) (eUn tupD m) := by
  obtain ⟨t, pe, l⟩ := ha
  refine ⟨_, pe_callTy call_tupleN hg hm hb (pa_cons pe pa_nil hs) (by decide) (by decide) hs hpl, fun F H A σ ρ Q wf en hp => ?_⟩
  refine l.use wf en hp fun d1 ρ1 x H1 F1 A1 s1 wf1 en1 r1 _ hp => ?_
  obtain ⟨d, e, hp⟩ := hp.lift
  unfold tupD at e
  split at e
  · cases e
    rcases r1 with h | ⟨q, vs, ds, rfl, e2, h, r⟩ | ⟨q, vs, ds, rfl, e2, h, r⟩ | ⟨q, vs, ds, rfl, e2, h, r⟩
    · cases h with
      | lst f h r => exact ⟨_, _, rfl, .inl ⟨SqL.of h, fun q o hq ho => hp.fin wf1 en1 (Pst.lay hq) (rp_new_tup hq ho r)⟩⟩
    · cases e2
      exact ⟨_, _, rfl, .inl ⟨SqL.of h, fun q o hq ho => hp.fin wf1 en1 (Pst.lay hq) (rp_new_tup hq ho r)⟩⟩
    · cases e2
    · cases e2
  · cases e
    rcases r1 with h | ⟨q, vs, ds, rfl, e2, h, r⟩ | ⟨q, vs, ds, rfl, e2, h, r⟩ | ⟨q, vs, ds, rfl, e2, h, r⟩
    · cases h with
      | tup h r => exact ⟨_, _, rfl, .inr ⟨h.sq, hp.fin0 wf1 en1 (.tup h r)⟩⟩
    all_goals cases e2
  · cases e
    rcases r1 with h | ⟨q, vs, ds, rfl, e2, h, r⟩ | ⟨q, vs, ds, rfl, e2, h, r⟩ | ⟨q, vs, ds, rfl, e2, h, r⟩
    · cases h with
      | scr h => exact ⟨_, _, rfl, .inl ⟨h.sq, fun q o hq ho => hp.fin wf1 en1 (Pst.lay hq) (rp_new_tup hq ho (Rps.ints _))⟩⟩
    all_goals cases e2
  · cases e
end
end DM
/-! DmT: enumerate of a list or a tuple. -/
namespace DM
open PySem PySem.Spec PyProof.Rows L2
variable [LamT]
theorem meets_enum1 {v : Value} {o : Obj} {Hh : Heap → Prop} (B : Begins v o Hh) :
    Meets (Builtin.«enumerate.__new__» ⟨[.type "enumerate", v], []⟩) (fun _ R s => Hh s.heap ∧
      R (.ok (.ret (.ref (s.heap.push o).objs.size))) { s with heap := (s.heap.push o).push { cls := .type "enumerate", data := .fields #[.none, .bool false, .ref s.heap.objs.size, rawInt 0, .none, .none] } }) :=
  .of_wp fun prog w A R s h => by
    obtain ⟨hp, g, d, tk, os⟩ := s; obtain ⟨h1, h⟩ := h
    have hsub := sub_enumerate
    have q1 : ∀ {A' : Around} {E : Value → Shared → Prop} {Q : Value → Shared → Prop}, Q (.ref hp.objs.size) ⟨hp.push o, g, d, tk, os⟩ → wpAny (model prog w) A' (pyIter v) Q E ⟨hp, g, d, tk, os⟩ :=
      fun q => B.iter prog w _ _ ⟨hp, g, d, tk, os⟩ _ h1 q
    wp_walk using q1
    refine wpAny_stack_any fun st => wpAny_pure ?_
    split
    · rename_i c _ _ _ _ _
      cases (c == Value.type "enumerate")
      · wp_walk using q1
        exact ⟨_, rfl, h⟩
      · wp_walk using q1
        exact ⟨_, rfl, h⟩
    · wp_walk using q1
      exact ⟨_, rfl, h⟩
theorem call_enum1 {prog : Program} {w : World} {A : Around} {E : Value → Shared → Prop} {s : Shared} {v : Value} {o : Obj} {Hh : Heap → Prop} {Q : Value → Shared → Prop} (B : Begins v o Hh) (h1 : Hh s.heap)
    (h : ∀ h', IsEnum h' (s.heap.objs.size + 1) s.heap.objs.size 0 .none → h'.get? s.heap.objs.size = some o → h'.objs.size = s.heap.objs.size + 2 →
      (∀ b o, s.heap.get? b = some o → h'.get? b = some o) → Q (.ref (s.heap.objs.size + 1)) { s with heap := h' }) :
    wpAny (model prog w) A (call (.type "enumerate") [v]) Q E s := by
  refine callType_new F.called_enumerate (by decide) (F.typeCall_enumerate_1 _) (F.newCall_enumerate_1 _) (fun obj => F.args_object_init_2 obj _) F.entry_enumerate_new
    (meets_enum1 B) ⟨h1, ?_⟩
  have hz : (s.heap.push o).objs.size = s.heap.objs.size + 1 := Heap.size_push ..
  show _ ∧ _
  rw [hz]
  have he : IsEnum ((s.heap.push o).push { cls := .type "enumerate", data := .fields #[.none, .bool false, .ref s.heap.objs.size, rawInt 0, .none, .none] }) (s.heap.objs.size + 1) s.heap.objs.size 0 .none := by
    have := Heap.get?_push_size (s.heap.push o) (o := { cls := .type "enumerate", data := .fields #[.none, .bool false, .ref s.heap.objs.size, rawInt 0, .none, .none] }) rfl
    rw [hz] at this; exact this
  refine ⟨⟨_, he, rfl⟩, h _ he (Heap.get?_push_of_some _ (Heap.get?_push_size _ B.free)) (by rw [Heap.size_push, hz]) fun b o x => Heap.get?_push_of_some _ (Heap.get?_push_of_some _ x)⟩
end DM
/-! DmW: zip of two sequences, each a list or a tuple, strict or not. -/
namespace DM
open PySem PySem.Spec PyProof.Rows L2
abbrev IsZipB (h : Heap) (z TI TO : Addr) (b : Bool) (f0 : Value) : Prop :=
  h.get? z = some { cls := .type "zip", dict := none, data := .fields #[f0, .bool false, .bool b, .ref TI, .ref TO], slots := #[] }
section
variable {prog : Program} {w : World} {A : Around} {E : Value → Shared → Prop} {s : Shared} {z TI TO i1 i2 : Addr} {fp1 fp2 : List Addr} {n1 n2 i : Nat} {P1 P2 : Nat → Value → Prop} {St1 St2 : Nat → Heap → Prop} {a1 a2 : Value}
theorem nexE_item (D1 : Draws prog w A i1 fp1 n1 P1 St1) (hlt : i < n1) (st : St1 i s.heap) {Q : Option Value → Shared → Prop}
    (hQ : ∀ x h' tk, P1 i x → St1 (i + 1) h' → Heap.SameBut i1 s.heap h' → Q (some x) { s with heap := h', toks := tk }) : wpAny (model prog w) A (Builtin.SmallTypes.nextOrEnd (.ref i1)) Q E s := by
  unfold Builtin.SmallTypes.nextOrEnd
  exact wpAny_bind (wpAny_attempt (D1.item i _ _ _ hlt st fun x h' tk a b c => wpAny_pure (hQ x h' tk a b c)))
theorem nexE_end (D1 : Draws prog w A i1 fp1 n1 P1 St1) (st : St1 n1 s.heap) {Q : Option Value → Shared → Prop}
    (hQ : ∀ h', Heap.ExtBut i1 s.heap h' → Q none { s with heap := h' }) : wpAny (model prog w) A (Builtin.SmallTypes.nextOrEnd (.ref i1)) Q E s := by
  unfold Builtin.SmallTypes.nextOrEnd
  refine wpAny_bind (wpAny_attempt (D1.done s _ _ st fun h' e hk he => ?_))
  obtain ⟨o, ho, hc⟩ := he
  refine wpAny_bind (wpAny_isInstance (T := "StopIteration") (b := true) ⟨o, ho, hc⟩ isSubtype_stop ?_)
  exact wpAny_pure (hQ h' hk)
theorem zipS_next_item {Q : Value → Shared → Prop} (S : ZipSep2 z TI TO i1 i2 fp1 fp2) (D1 : Draws prog w A i1 fp1 n1 P1 St1) (D2 : Draws prog w A i2 fp2 n2 P2 St2)
    (hz : IsZipB s.heap z TI TO true .none) (hTI : IsTupOf2 s.heap TI (.ref i1) (.ref i2)) (hTO : IsTupOf2 s.heap TO a1 a2) (st1 : St1 i s.heap) (st2 : St2 i s.heap) (hlt1 : i < n1) (hlt2 : i < n2)
    (hQ : ∀ x1 x2 h' tk, P1 i x1 → P2 i x2 → IsZipB h' z TI TO true (rawInt s.heap.objs.size) → IsTupOf2 h' TO x1 x2 → St1 (i + 1) h' → St2 (i + 1) h' → IsTupOf2 h' s.heap.objs.size x1 x2 → h'.objs.size = s.heap.objs.size + 1 →
      (∀ c o, c ≠ z → c ≠ TO → c ≠ i1 → c ≠ i2 → s.heap.get? c = some o → h'.get? c = some o) → Q (.ref s.heap.objs.size) { s with heap := h', toks := tk }) :
    wpAny (model prog w) A (Builtin.«zip.__next__» ⟨[.ref z], []⟩) (fun fin s' => ∃ v, fin = .done (.ret v) ∧ Q v s') E s := by
  obtain ⟨hp, g, d, tk0, os⟩ := s
  show wpAny _ _ (field (.ref z) 2 >>= _) _ _ _
  refine wpAny_bind (wpAny_field hz rfl (x := .bool true) rfl ?_)
  show wpAny _ _ (field (.ref z) 3 >>= _) _ _ _
  refine wpAny_bind (wpAny_field hz rfl (x := .ref TI) rfl ?_)
  refine wpAny_bind (wpAny_seqItems hTI rfl ?_)
  show wpAny _ _ (Builtin.SmallTypes.ownedTupleIsFree (.ref z) >>= _) _ _ _
  refine wpAny_bind ?_
  unfold Builtin.SmallTypes.ownedTupleIsFree
  refine wpAny_bind (wpAny_field hz rfl (x := .none) rfl (wpAny_pure ?_))
  simp only [if_true]
  refine wpAny_bind (wpAny_rule ?_)
  refine wpAny_bind (wpAny_field hz rfl (x := .ref TO) rfl ?_)
  refine wpAny_bind (wpAny_setField_rec hz (by simp) fun g0 hz0 hs0 => ?_)
  replace hz0 : IsZipB g0 z TI TO true .ellipsis := hz0
  replace hs0 : Heap.SameBut z hp g0 := hs0
  refine wpAny_bind ?_
  simp only [List.zipIdx_cons, List.zipIdx_nil, List.forIn_cons, List.forIn_nil]
  refine wpAny_bind (wpAny_bind (wpAny_onRaise ?_))
  show wpAny _ _ (Builtin.SmallTypes.nextOrEnd (.ref i1)) _ _ ⟨g0, g, d, tk0, os⟩
  refine nexE_item (s := ⟨g0, g, d, tk0, os⟩) D1 hlt1 (D1.over st1 hs0 S.zf1) fun x1 p1 tk1 hx1 sn1 hp1 => ?_
  replace hp1 : Heap.SameBut i1 g0 p1 := hp1
  have hU1 : IsTupOf2 p1 TO a1 a2 := hp1.extBut _ _ S.Ti1 (hs0.extBut _ _ S.TOz hTO)
  refine wpAny_bind (wpAny_seqItems (s := ⟨p1, g, d, tk1, os⟩) hU1 rfl ?_)
  refine wpAny_bind (updateSeq_IsTupOf2 (s := ⟨p1, g, d, tk1, os⟩) hU1 fun g1 hT1 hs1 => ?_)
  replace hT1 : IsTupOf2 g1 TO x1 a2 := hT1
  replace hs1 : Heap.SameBut TO p1 g1 := hs1
  refine wpAny_bind (wpAny_letGo (wpAny_pure ?_))
  refine wpAny_bind (wpAny_bind (wpAny_onRaise ?_))
  show wpAny _ _ (Builtin.SmallTypes.nextOrEnd (.ref i2)) _ _ ⟨g1, g, d, tk1, os⟩
  refine nexE_item (s := ⟨g1, g, d, tk1, os⟩) D2 hlt2 (D2.over (D2.over (D2.over st2 hs0 S.zf2) hp1 S.sep1_2) hs1 S.Tf2) fun x2 p2 tk2 hx2 sn2 hp2 => ?_
  replace hp2 : Heap.SameBut i2 g1 p2 := hp2
  have hU2 : IsTupOf2 p2 TO x1 a2 := hp2.extBut _ _ S.Ti2 hT1
  refine wpAny_bind (wpAny_seqItems (s := ⟨p2, g, d, tk2, os⟩) hU2 rfl ?_)
  refine wpAny_bind (updateSeq_IsTupOf2 (s := ⟨p2, g, d, tk2, os⟩) hU2 fun g2 hT2 hs2 => ?_)
  replace hT2 : IsTupOf2 g2 TO x1 x2 := hT2
  replace hs2 : Heap.SameBut TO p2 g2 := hs2
  refine wpAny_bind (wpAny_letGo (wpAny_pure (wpAny_pure ?_)))
  refine wpAny_bind (wpAny_seqItems (s := ⟨g2, g, d, tk2, os⟩) hT2 rfl ?_)
  refine wpAny_bind (wpAny_newTuple ?_)
  have hsz : g2.objs.size = hp.objs.size := by rw [hs2.1, hp2.1, hs1.1, hp1.1, hs0.1]
  have hzz : IsZipB g2 z TI TO true .ellipsis := (hs2.extBut _ _ S.TOz.symm (hp2.extBut _ _ S.zi2 (hs1.extBut _ _ S.TOz.symm (hp1.extBut _ _ S.zi1 hz0))))
  have hkk : ∀ c o, c ≠ z → c ≠ TO → c ≠ i1 → c ≠ i2 → hp.get? c = some o → g2.get? c = some o := fun c o cz cT c1 c2 e =>
    (hs2.extBut _ _ cT (hp2.extBut _ _ c2 (hs1.extBut _ _ cT (hp1.extBut _ _ c1 (hs0.extBut _ _ cz e)))))
  have hj1 : St1 (i + 1) g2 := (D1.over (D1.over (D1.over sn1 hs1 S.Tf1) hp2 S.sep2_1) hs2 S.Tf1)
  have hj2 : St2 (i + 1) g2 := (D2.over sn2 hs2 S.Tf2)
  have hzlt : z < g2.objs.size := Heap.lt_size hzz
  show wpAny _ _ (Builtin.SmallTypes.ownedTupleHandOut (.ref z) (.ref g2.objs.size) >>= _) _ _ ⟨g2.push { cls := .type "tuple", data := .seq #[x1, x2] }, g, d, tk2, os⟩
  refine wpAny_bind ?_
  unfold Builtin.SmallTypes.ownedTupleHandOut
  have hz₆ : IsZipB (g2.push { cls := .type "tuple", data := .seq #[x1, x2] }) z TI TO true .ellipsis := Heap.get?_push_of_some _ hzz
  refine wpAny_bind (wpAny_setField_rec hz₆ (by simp) fun h₇ hz₇ hs₇ => ?_)
  replace hz₇ : IsZipB h₇ z TI TO true (rawInt g2.objs.size) := hz₇
  refine wpAny_setField_rec hz₇ (by simp) fun h₈ hz₈ hs₈ => ?_
  replace hz₈ : IsZipB h₈ z TI TO true (rawInt g2.objs.size) := hz₈
  replace hs₇ : Heap.SameBut z (g2.push { cls := .type "tuple", data := .seq #[x1, x2] }) h₇ := hs₇
  replace hs₈ : Heap.SameBut z h₇ h₈ := hs₈
  have up : ∀ c o, c ≠ z → g2.get? c = some o → h₈.get? c = some o := fun c o c1 e => hs₈.extBut _ _ c1 (hs₇.extBut _ _ c1 (Heap.get?_push_of_some _ e))
  have hT₈ : IsTupOf2 h₈ g2.objs.size x1 x2 := hs₈.extBut _ _ (Nat.ne_of_gt hzlt) (hs₇.extBut _ _ (Nat.ne_of_gt hzlt) (Heap.get?_push_size _ rfl))
  have hz8 : h₈.objs.size = g2.objs.size + 1 := by rw [hs₈.1, hs₇.1, Heap.size_push]
  rw [hsz] at hz₈ hT₈ hz8
  refine wpAny_pure ⟨_, rfl, ?_⟩
  show Q (.ref g2.objs.size) ⟨h₈, g, d, tk2, os⟩
  rw [hsz]
  exact hQ x1 x2 h₈ tk2 hx1 hx2 hz₈ (up _ _ S.TOz hT2) (D1.frame _ _ _ hj1 fun b hb o e => up b o (fun q => S.zf1 (q ▸ hb)) e) (D2.frame _ _ _ hj2 fun b hb o e => up b o (fun q => S.zf2 (q ▸ hb)) e) hT₈ hz8 fun c o cz cT c1 c2 e => up c o cz (hkk c o cz cT c1 c2 e)
theorem zipS_next_end {Q : Fin → Shared → Prop} (hh : A.handled = none) (S : ZipSep2 z TI TO i1 i2 fp1 fp2) (D1 : Draws prog w A i1 fp1 n1 P1 St1) (D2 : Draws prog w A i2 fp2 n2 P2 St2)
    (hz : IsZipB s.heap z TI TO true .none) (hTI : IsTupOf2 s.heap TI (.ref i1) (.ref i2)) (hTO : IsTupOf2 s.heap TO a1 a2) (st1 : St1 n1 s.heap) (st2 : St2 n2 s.heap)
    (hE : ∀ h' e, (∀ c o, c ≠ z → c ≠ TO → c ≠ i1 → c ≠ i2 → s.heap.get? c = some o → h'.get? c = some o) → (∃ o, h'.get? e = some o ∧ o.cls = .type "StopIteration") → E (.ref e) { s with heap := h' }) :
    wpAny (model prog w) A (Builtin.«zip.__next__» ⟨[.ref z], []⟩) Q E s := by
  obtain ⟨hp, g, d, tk0, os⟩ := s
  show wpAny _ _ (field (.ref z) 2 >>= _) _ _ _
  refine wpAny_bind (wpAny_field hz rfl (x := .bool true) rfl ?_)
  show wpAny _ _ (field (.ref z) 3 >>= _) _ _ _
  refine wpAny_bind (wpAny_field hz rfl (x := .ref TI) rfl ?_)
  refine wpAny_bind (wpAny_seqItems hTI rfl ?_)
  show wpAny _ _ (Builtin.SmallTypes.ownedTupleIsFree (.ref z) >>= _) _ _ _
  refine wpAny_bind ?_
  unfold Builtin.SmallTypes.ownedTupleIsFree
  refine wpAny_bind (wpAny_field hz rfl (x := .none) rfl (wpAny_pure ?_))
  simp only [if_true]
  refine wpAny_bind (wpAny_rule ?_)
  refine wpAny_bind (wpAny_field hz rfl (x := .ref TO) rfl ?_)
  refine wpAny_bind (wpAny_setField_rec hz (by simp) fun g0 hz0 hs0 => ?_)
  replace hz0 : IsZipB g0 z TI TO true .ellipsis := hz0
  replace hs0 : Heap.SameBut z hp g0 := hs0
  refine wpAny_bind ?_
  simp only [List.zipIdx_cons, List.zipIdx_nil, List.forIn_cons, List.forIn_nil]
  refine wpAny_bind (wpAny_bind (wpAny_onRaise ?_))
  show wpAny _ _ (Builtin.SmallTypes.nextOrEnd (.ref i1)) _ _ ⟨g0, g, d, tk0, os⟩
  refine nexE_end (s := ⟨g0, g, d, tk0, os⟩) D1 (D1.over st1 hs0 S.zf1) fun p1 hp1 => ?_
  replace hp1 : Heap.ExtBut i1 g0 p1 := hp1
  have hz1 : IsZipB p1 z TI TO true .ellipsis := hp1 _ _ S.zi1 hz0
  refine wpAny_bind (wpAny_setField_rec (s := ⟨p1, g, d, tk0, os⟩) hz1 (by simp) fun g1 hz2 hs1 => ?_)
  replace hs1 : Heap.SameBut z p1 g1 := hs1
  refine wpAny_bind ?_
  show wpAny _ _ (forIn (β := PUnit) [((Value.ref i2), 1)] PUnit.unit _ >>= _) _ _ ⟨g1, g, d, tk0, os⟩
  refine wpAny_bind ?_
  simp only [List.forIn_cons, List.forIn_nil]
  refine wpAny_bind (wpAny_bind ?_)
  have hT1 : Heap.SameBut z p1 g1 := hs1
  refine nexE_end (s := ⟨g1, g, d, tk0, os⟩) D2 (D2.over (D2.frame _ _ _ (D2.over st2 hs0 S.zf2) fun b hb o e => hp1 b o (fun q => S.sep1_2 (q ▸ hb)) e) hs1 S.zf2) fun p2 hp2 => ?_
  replace hp2 : Heap.ExtBut i2 g1 p2 := hp2
  simp only [Option.isSome_none]
  refine wpAny_pure (wpAny_pure ?_)
  refine wpAny_bind (wpAny_rule ?_)
  have hkk : ∀ c o, c ≠ z → c ≠ TO → c ≠ i1 → c ≠ i2 → hp.get? c = some o → p2.get? c = some o := fun c o cz cT c1 c2 e =>
    hp2 _ _ c2 (hs1.extBut _ _ cz (hp1 _ _ c1 (hs0.extBut _ _ cz e)))
  show wpAny _ _ Builtin.SmallTypes.stopIteration _ _ ⟨p2, g, d, tk0, os⟩
  unfold Builtin.SmallTypes.stopIteration
  refine wpAny_bind ?_
  simp only [newExc, newTuple]
  refine wpAny_bind (wpAny_newObj_type ?_ (by size_fits))
  refine wpAny_bind (m := firstArgMember _ _) (wpAny_of_eq (a := Value.none) (by first | rfl | (simp only [firstArgMember]; rfl)) ?_)
  refine wpAny_newObj_type ?_ (by size_fits)
  simp only [raiseNew]
  refine wpAny_bind (wpAny_handled ?_)
  first | rw [show A.in1.handled = none from hh] | rw [hh]
  refine wpAny_bind (wpAny_pure (wpAny_throw ?_))
  exact hE _ _ (fun c o cz cT c1 c2 e => Heap.get?_push_of_some _ (Heap.get?_push_of_some _ (hkk c o cz cT c1 c2 e))) ⟨_, Heap.get?_push_size _ rfl, rfl⟩
end
end DM
/-! DmX: zip as a walk. -/
namespace DM
open PySem PySem.Spec PyProof.Rows L2
variable [LamT]
/-! sequences of three kinds: a tuple, a list, a text -/
inductive SK where
  | t | l
  | x (s : Str)
def chars (s : Str) : List V := s.cps.toList.map fun c => V.str ⟨#[c]⟩
def srcV : SK → Addr → V
  | .x s, _ => .str s
  | _, a => .ref a
def IsIt : SK → Heap → Addr → Addr → Nat → Prop
  | .t, h, it, a, i => h.IsTupleIter it a i
  | .l, h, it, a, i => h.IsListIter it a i
  | .x s, h, it, _, i => ∃ u, h.IsStrIter it (strIterType s) s u i
def IsSq : SK → Heap → Addr → List V → Prop
  | .t, h, a, xs => ∃ its : List Value, Vals xs its ∧ h.IsTuple a its.toArray
  | .l, h, a, xs => ∃ its : List Value, Vals xs its ∧ h.IsList a its.toArray
  | .x s, _, _, xs => xs = chars s
def SqK : SK → PySem.W.Frag → Hp → Addr → List V → Prop
  | .t, K, H, a, xs => SqT K H a xs
  | .l, K, H, a, xs => SqL K H a xs
  | .x s, _, _, a, xs => a = mainGlobals ∧ xs = chars s
theorem draws_ex {ι : Type} {prog : Program} {w : World} {A : Around} {it : Addr} {fp fp2 : List Addr} {n : Nat} {P2 : Nat → Value → Prop} {ok : ι → Prop} {St : ι → Nat → Heap → Prop} {P : ι → Nat → Value → Prop}
    (D : ∀ a, ok a → Draws prog w A it fp n (P a) (St a)) (hp : ∀ a, ok a → ∀ i v, P a i v → P2 i v) (hf : ∀ b ∈ fp, b ∈ fp2) : Draws prog w A it fp2 n P2 (fun i h => ∃ a, ok a ∧ St a i h) where
  live := fun i h ⟨a, o, st⟩ => (D a o).live i h st
  frame := fun i h h' ⟨a, o, st⟩ k => ⟨a, o, (D a o).frame i h h' st fun b hb => k b (hf b hb)⟩
  item := fun i s Q E hi ⟨a, o, st⟩ hQ => (D a o).item i s Q E hi st fun x h' tk p st' sb => hQ x h' tk (hp a o i x p) ⟨a, o, st'⟩ sb
  done := fun s Q E ⟨a, o, st⟩ hE => (D a o).done s Q E st hE
theorem draws_imp {prog : Program} {w : World} {A : Around} {it : Addr} {fp : List Addr} {n : Nat} {P : Nat → Value → Prop} {St St2 : Nat → Heap → Prop} (D : Draws prog w A it fp n P St) (e : ∀ i h, St i h ↔ St2 i h) : Draws prog w A it fp n P St2 where
  live := fun i h st => D.live i h ((e i h).mpr st)
  frame := fun i h h' st k => (e i h').mp (D.frame i h h' ((e i h).mpr st) k)
  item := fun i s Q E hi st hQ => D.item i s Q E hi ((e i _).mpr st) fun x h' tk p st' sb => hQ x h' tk p ((e _ _).mp st') sb
  done := fun s Q E st hE => D.done s Q E ((e _ _).mpr st) hE
theorem vals_at {xs : List V} {its : List Value} (r : Vals xs its) {i : Nat} {v : Value} (e : its.toArray[i]? = some v) : ∃ y, xs[i]? = some y ∧ RelV y v := by
  have e1 : its[i]? = some v := by simpa using e
  have hi := (List.getElem?_eq_some_iff.mp e1).1
  have hx : i < xs.length := by rw [r.length]; exact hi
  obtain ⟨u, hu, ru⟩ := r.get (List.getElem?_eq_getElem hx)
  rw [hu] at e1; cases e1
  exact ⟨_, List.getElem?_eq_getElem hx, ru⟩
theorem draws_sq (k : SK) {prog : Program} {w : World} {A : Around} (hh : A.handled = none) (it l : Addr) (hne : l ≠ it) (xs : List V) :
    Draws prog w A it [it, l] xs.length (fun i v => ∃ y, xs[i]? = some y ∧ RelV y v) (fun i h => IsIt k h it l i ∧ IsSq k h l xs) := by
  cases k with
  | t =>
    refine draws_imp (draws_ex (ι := List Value) (fp := [it, l]) (ok := fun its => Vals xs its) (St := fun its i h => h.IsTupleIter it l i ∧ h.IsTuple l its.toArray) (P := fun its i v => its.toArray[i]? = some v) (fun its o => ?_) (fun its o i v e => vals_at o e) fun b hb => hb) fun i h => ?_
    · have := Draws.tuple (prog := prog) (w := w) hh it l hne its.toArray
      rw [List.size_toArray, ← o.length] at this
      exact this
    · exact ⟨fun ⟨its, o, a, b⟩ => ⟨a, its, o, b⟩, fun ⟨a, its, o, b⟩ => ⟨its, o, a, b⟩⟩
  | l =>
    refine draws_imp (draws_ex (ι := List Value) (fp := [it, l]) (ok := fun its => Vals xs its) (St := fun its i h => h.IsListIter it l i ∧ h.IsList l its.toArray) (P := fun its i v => its.toArray[i]? = some v) (fun its o => ?_) (fun its o i v e => vals_at o e) fun b hb => hb) fun i h => ?_
    · have := Draws.list (prog := prog) (w := w) hh it l hne its.toArray
      rw [List.size_toArray, ← o.length] at this
      exact this
    · exact ⟨fun ⟨its, o, a, b⟩ => ⟨a, its, o, b⟩, fun ⟨a, its, o, b⟩ => ⟨its, o, a, b⟩⟩
  | x s =>
    refine draws_imp (draws_ex (ι := Tok) (fp := [it]) (ok := fun _ => xs = chars s) (St := fun u i h => h.IsStrIter it (strIterType s) s u i) (P := fun _ i v => ∃ c u, s.cps[i]? = some c ∧ v = .str ⟨#[c]⟩ u) (fun u o => ?_) (fun u o i v e => ?_) (fun b hb => by rw [List.mem_singleton.mp hb]; exact List.mem_cons_self)) fun i h => ?_
    · have := Draws.text (prog := prog) (w := w) hh it s u
      have e : xs.length = s.cps.size := by rw [o, chars, List.length_map, Array.length_toList]
      rw [e]
      exact this
    · obtain ⟨c, t, e1, rfl⟩ := e
      refine ⟨.str ⟨#[c]⟩, ?_, ⟨t, rfl⟩⟩
      rw [o, chars, List.getElem?_map, Array.getElem?_toList, e1]; rfl
    · exact ⟨fun ⟨u, o, a⟩ => ⟨⟨u, a⟩, o⟩, fun ⟨⟨u, a⟩, o⟩ => ⟨u, o, a⟩⟩
def beginO (k : SK) (u : Value) : Obj := match k with
  | .t => { cls := .type "tuple_iterator", data := .fields #[u, .int 0 0] }
  | .l => { cls := .type "list_iterator", data := .fields #[u, .int 0 0] }
  | .x s => { cls := .type (strIterType s), data := .fields #[u, .int 0 0] }
theorem begins_sq (k : SK) (a : Addr) (u : Value) (r : RelV (srcV k a) u) (xs : List V) : Begins u (beginO k u) fun h => IsSq k h a xs := by
  cases k with
  | t =>
    cases r
    exact ⟨fun prog w A E s Q ⟨its, o, b⟩ h => (begins_tuple a its.toArray).iter prog w A E s Q b h, fun h h' ⟨its, o, b⟩ k => ⟨its, o, (begins_tuple a its.toArray).keeps h h' b k⟩, rfl⟩
  | l =>
    cases r
    exact ⟨fun prog w A E s Q ⟨its, o, b⟩ h => (begins_list a its.toArray).iter prog w A E s Q b h, fun h h' ⟨its, o, b⟩ k => ⟨its, o, (begins_list a its.toArray).keeps h h' b k⟩, rfl⟩
  | x z =>
    obtain ⟨t, rfl⟩ := r
    exact ⟨fun prog w A E s Q _ h => (begins_text z t).iter prog w A E s Q trivial h, fun h h' o k => o, rfl⟩
theorem isIt_begin (k : SK) {h : Heap} {it a : Addr} {u : Value} (r : RelV (srcV k a) u) (e : h.get? it = some (beginO k u)) : IsIt k h it a 0 := by
  cases k with
  | t => cases r; exact ⟨_, e, rfl, rfl⟩
  | l => cases r; exact ⟨_, e, rfl, rfl⟩
  | x z => obtain ⟨t, rfl⟩ := r; exact ⟨t, _, e, rfl, rfl⟩
theorem isIt_at {k : SK} {h h' : Heap} {it a : Addr} {i : Nat} (x : IsIt k h it a i) (hk : ∀ o, h.get? it = some o → h'.get? it = some o) : IsIt k h' it a i := by
  cases k with
  | t => exact Heap.IsTupleIter.at x hk
  | l => exact Heap.IsListIter.at x hk
  | x z =>
    obtain ⟨u, o, e, r⟩ := x
    exact ⟨u, o, hk o e, r⟩
theorem isIt_obj {k : SK} {h : Heap} {it a : Addr} {i : Nat} (x : IsIt k h it a i) : ∃ o, h.get? it = some o ∧ ∀ v, o.data ≠ .cell v := by
  cases k with
  | t =>
    obtain ⟨o, e, _, d⟩ := x
    exact ⟨o, e, fun v q => by rw [d] at q; cases q⟩
  | l =>
    obtain ⟨o, e, _, d⟩ := x
    exact ⟨o, e, fun v q => by rw [d] at q; cases q⟩
  | x z =>
    obtain ⟨u, o, e, _, d⟩ := x
    exact ⟨o, e, fun v q => by rw [d] at q; cases q⟩
section
variable {X : Cx} {pins : List (Addr × Obj)} {σ : L2.St} {H : Hp} {s : Shared} {a : Addr} {xs : List V}
theorem inv_sq (k : SK) (I : Inv X pins σ H s) (h : SqK k X.K H a xs) : IsSq k s.heap a xs ∧ a < s.heap.objs.size := by
  cases k with
  | t =>
    obtain ⟨its, rv, p, _⟩ := I.tuple h
    exact ⟨⟨its, rv, p⟩, p.lt⟩
  | l =>
    obtain ⟨its, rv, p, _⟩ := I.list h
    exact ⟨⟨its, rv, p.isList⟩, p.lt⟩
  | x z =>
    obtain ⟨o, es, ep, e, _⟩ := I.mod.glob.keeps I.bk
    exact ⟨h.2, by rw [h.1]; exact Heap.lt_size e⟩
theorem sq_inj (k : SK) (I : Inv X pins σ H s) {ys : List V} (h1 : SqK k X.K H a xs) (h2 : SqK k X.K H a ys) : xs = ys := by
  cases k with
  | t => exact I.tuple_inj h1 h2
  | l => exact I.list_inj h1 h2
  | x z => rw [h1.2, h2.2]
end
def Itq (K : PySem.W.Frag) (ka kb : SK) (st : Bool) (a b : Addr) : It :=
  ⟨fun i H => ∃ (xs ys : List V) (x y : V), SqK ka K H a xs ∧ SqK kb K H b ys ∧ xs[i]? = some x ∧ ys[i]? = some y,
    fun i H v H' => ∃ T x y o, v = .ref T ∧ H T = none ∧ o.dict = none ∧ H' = upd H T (TO o [x, y]) ∧ (∀ xs, SqK ka K H a xs → xs[i]? = some x) ∧ ∀ ys, SqK kb K H b ys → ys[i]? = some y,
    fun i H => ∃ xs ys : List V, SqK ka K H a xs ∧ SqK kb K H b ys ∧ i ≤ xs.length ∧ i ≤ ys.length ∧ (i = xs.length ∨ i = ys.length) ∧ (st = true → i = xs.length ∧ i = ys.length)⟩
section
variable {prog : Program} {w : World} {A : Around} {E : Value → Shared → Prop} {s : Shared} {z TI TO i1 i2 : Addr} {fp1 fp2 : List Addr} {n1 n2 i : Nat} {P1 P2 : Nat → Value → Prop} {St1 St2 : Nat → Heap → Prop} {a1 a2 : Value}
theorem pyNext_zipB_item {st : Bool} {Q : Option Value → Shared → Prop} (S : ZipSep2 z TI TO i1 i2 fp1 fp2) (D1 : Draws prog w A.in1 i1 fp1 n1 P1 St1) (D2 : Draws prog w A.in1 i2 fp2 n2 P2 St2)
    (hz : IsZipB s.heap z TI TO st .none) (hTI : IsTupOf2 s.heap TI (.ref i1) (.ref i2)) (hTO : IsTupOf2 s.heap TO a1 a2) (st1 : St1 i s.heap) (st2 : St2 i s.heap) (hlt1 : i < n1) (hlt2 : i < n2)
    (hQ : ∀ x1 x2 h' tk, P1 i x1 → P2 i x2 → IsZipB h' z TI TO st (rawInt s.heap.objs.size) → IsTupOf2 h' TO x1 x2 → St1 (i + 1) h' → St2 (i + 1) h' → IsTupOf2 h' s.heap.objs.size x1 x2 → h'.objs.size = s.heap.objs.size + 1 →
      (∀ c o, c ≠ z → c ≠ TO → c ≠ i1 → c ≠ i2 → s.heap.get? c = some o → h'.get? c = some o) → Q (some (.ref s.heap.objs.size)) { s with heap := h', toks := tk }) :
    wpAny (model prog w) A (pyNext (.ref z)) Q E s := by
  cases st with
  | false => exact wpAny_pyNext_zipD2_item S D1 D2 hz hTI hTO st1 st2 hlt1 hlt2 hQ
  | true =>
    have hT : s.TypeIs (.ref z) "zip" := ⟨_, hz, rfl⟩
    unfold pyNext
    exact wpAny_bind (wpAny_attempt (wpAny_callSpecial?_slot (name := Str.ofString "__next__") hT F.slot_zip_next (wpAny_call_entry F.slot_zip_next hT F.entry_zip_next
      (zipS_next_item S D1 D2 hz hTI hTO st1 st2 hlt1 hlt2 fun x1 x2 h' tk y1 y2 b1 b2 d1 d2 b5 b6 b7 => wpAny_pure (hQ x1 x2 h' tk y1 y2 b1 b2 d1 d2 b5 b6 b7)) (F.args_zip_next_1 _))))
theorem pyNext_zipB_end {st : Bool} {Q : Option Value → Shared → Prop} (hh : A.handled = none) (S : ZipSep2 z TI TO i1 i2 fp1 fp2) (D1 : Draws prog w A.in1 i1 fp1 n1 P1 St1) (D2 : Draws prog w A.in1 i2 fp2 n2 P2 St2)
    (hz : IsZipB s.heap z TI TO st .none) (hTI : IsTupOf2 s.heap TI (.ref i1) (.ref i2)) (hTO : IsTupOf2 s.heap TO a1 a2) (st1 : St1 i s.heap) (st2 : St2 i s.heap) (hle1 : i ≤ n1) (hle2 : i ≤ n2) (hend : i = n1 ∨ i = n2) (hst : st = true → i = n1 ∧ i = n2)
    (hQ : ∀ h' tk, (∀ c o, c ≠ z → c ≠ TO → c ≠ i1 → c ≠ i2 → s.heap.get? c = some o → h'.get? c = some o) → Q none { s with heap := h', toks := tk }) : wpAny (model prog w) A (pyNext (.ref z)) Q E s := by
  cases st with
  | false => exact wpAny_pyNext_zipD2_end S D1 D2 hz hTI hTO st1 st2 hle1 hle2 hend hQ
  | true =>
    obtain ⟨e1, e2⟩ := hst rfl
    have hT : s.TypeIs (.ref z) "zip" := ⟨_, hz, rfl⟩
    unfold pyNext
    refine wpAny_bind (wpAny_attempt (wpAny_callSpecial?_slot (name := Str.ofString "__next__") hT F.slot_zip_next (wpAny_call_entry F.slot_zip_next hT F.entry_zip_next
      (zipS_next_end (by first | exact hh | rw [← hh]; rfl) S D1 D2 hz hTI hTO (by rw [← e1]; exact st1) (by rw [← e2]; exact st2) fun h' e hk he => ?_) (F.args_zip_next_1 _))))
    obtain ⟨o, ho, hc⟩ := he
    refine wpAny_bind (wpAny_isInstance (T := "StopIteration") (b := true) ⟨o, ho, hc⟩ isSubtype_stop ?_)
    exact wpAny_pure (hQ h' s.toks hk)
end
section
variable {prog : Program} {w : World} {A : Around} {E : Value → Shared → Prop} {s : Shared}
theorem wpAny_letOwnedTupleGo_zipB {elts : List Expr} {x1} {pos : Pos} {z TI TO T : Addr} {b : Bool} {Q : Unit → Shared → Prop} (hz : IsZipB s.heap z TI TO b (rawInt T))
    (hQ : ∀ h', IsZipB h' z TI TO b .none → Heap.SameBut z s.heap h' → Q () { s with heap := h' }) :
    wpAny (model prog w) A (letOwnedTupleGo (.Tuple elts x1 pos) (.ref z) (.ref T)) Q E s := by
  unfold letOwnedTupleGo
  refine wpAny_bind (wpAny_load hz ?_)
  show wpAny _ _ (if (["enumerate", "zip", "dict_itemiterator", "dict_reverseitemiterator", "odict_iterator", "itertools.zip_longest", "itertools.pairwise"].contains "zip" &&
      (#[rawInt T, .bool false, .bool b, .ref TI, .ref TO] : Array Value)[0]? == some (rawInt T)) = true then _ else _) Q E s
  rw [if_pos (by simp)]
  refine wpAny_bind (wpAny_rule ?_)
  show wpAny _ _ (setField (.ref z) 0 .none) Q E s
  exact wpAny_setField_rec hz (by simp) fun h' hz' hs' => hQ h' hz' hs'
theorem wpAny_pyIter_zipB {z TI TO : Addr} {b : Bool} {f0 : Value} {Q : Value → Shared → Prop} (hz : IsZipB s.heap z TI TO b f0) (h : Q (.ref z) s) : wpAny (model prog w) A (pyIter (.ref z)) Q E s := by
  have hT : s.TypeIs (.ref z) "zip" := ⟨_, hz, rfl⟩
  refine wpAny_pyIter_slot hT F.slot_zip_iter (wpAny_call_entry F.slot_zip_iter hT F.entry_zip_iter ?_ (F.args_zip_iter_1 _))
  show wpAny _ _ (PySem.ret (.ref z)) _ _ s
  exact wpAny_pure ⟨_, rfl, "zip", _, hT, F.slot_zip_next.lookup, h⟩
end
/-- how the cells lie -/
structure ZApart (z TI TO i1 i2 a b : Addr) : Prop where
  TIz : TI ≠ z
  TOz : TO ≠ z
  i1z : i1 ≠ z
  i2z : i2 ≠ z
  TITO : TI ≠ TO
  TIi1 : TI ≠ i1
  TIi2 : TI ≠ i2
  TOi1 : TO ≠ i1
  TOi2 : TO ≠ i2
  i12 : i1 ≠ i2
  az : a ≠ z
  aTO : a ≠ TO
  ai1 : a ≠ i1
  ai2 : a ≠ i2
  bz : b ≠ z
  bTO : b ≠ TO
  bi1 : b ≠ i1
  bi2 : b ≠ i2
theorem zapart (n a b : Addr) (ha : a < n) (hb : b < n) : ZApart (n + 4) (n + 2) (n + 3) n (n + 1) a b :=
  have D := PySem.W.ktu_apart n a b ha hb
  ⟨D.TIz, D.TOz, D.i1z, D.i2z, D.TITO, D.TIi1, D.TIi2, D.TOi1, D.TOi2, D.i12, D.l1z, D.l1TO, D.l1i1, D.l1i2, D.l2z, D.l2TO, D.l2i1, D.l2i2⟩
theorem ZApart.sep {z TI TO i1 i2 a b : Addr} (D : ZApart z TI TO i1 i2 a b) : ZipSep2 z TI TO i1 i2 [i1, a] [i2, b] where
  TIz := D.TIz
  TOz := D.TOz
  TITO := D.TITO
  TIi1 := D.TIi1
  mem1 := by simp
  zf1 := by simp [D.i1z.symm, D.az.symm]
  Tf1 := by simp [D.TOi1, D.aTO.symm]
  TIi2 := D.TIi2
  mem2 := by simp
  zf2 := by simp [D.i2z.symm, D.bz.symm]
  Tf2 := by simp [D.TOi2, D.bTO.symm]
  sep1_2 := by simp [D.i12, D.bi1.symm]
  sep2_1 := by simp [D.i12.symm, D.ai2.symm]
theorem turn_zipB {P : Program} {w : World} {K : PySem.W.Frag} {elts : List Expr} {kk : Nat} {tpos : Pos} {a b z TI TO i1 i2 : Addr} {ka kb : SK} {st : Bool} (D : ZApart z TI TO i1 i2 a b) :
    Turn P w K (.Tuple elts kk tpos) (Itq K ka kb st a b) [z, TI, TO, i1, i2] z (fun i h => IsZipB h z TI TO st .none ∧ IsTupOf2 h TI (.ref i1) (.ref i2) ∧ (∃ x y, IsTupOf2 h TO x y) ∧ IsIt ka h i1 a i ∧ IsIt kb h i2 b i) where
  mem := by simp
  obj := fun i h st c hc => by
    obtain ⟨hz, hTI, ⟨x, y, hTO⟩, h1, h2⟩ := st
    have e' : c = z ∨ c = TI ∨ c = TO ∨ c = i1 ∨ c = i2 := by simpa using hc
    rcases e' with q | q | q | q | q
    · rw [q]; exact ⟨_, hz, fun v q => nomatch q⟩
    · rw [q]; exact ⟨_, hTI, fun v q => nomatch q⟩
    · rw [q]; exact ⟨_, hTO, fun v q => nomatch q⟩
    · rw [q]; exact isIt_obj h1
    · rw [q]; exact isIt_obj h2
  keep := fun i h h' st k => by
    obtain ⟨hz, hTI, ⟨x, y, hTO⟩, h1, h2⟩ := st
    exact ⟨k z (by simp) _ hz, k TI (by simp) _ hTI, ⟨x, y, k TO (by simp) _ hTO⟩, isIt_at h1 fun o q => k i1 (by simp) o q, isIt_at h2 fun o q => k i2 (by simp) o q⟩
  item := by
    intro X hP hw hK hc i pins s σ H E I hf hst hg
    subst hP hw hK
    obtain ⟨hz, hTI, ⟨x0, y0, hTO⟩, h1, h2⟩ := hst
    obtain ⟨xs, ys, x, y, hqx, hqy, hx, hy⟩ := hg
    obtain ⟨p, pl⟩ := inv_sq ka I hqx
    obtain ⟨p2, pl2⟩ := inv_sq kb I hqy
    have hzl : z < s.heap.objs.size := Heap.lt_size hz
    have hd := I.ok.hd hc
    refine pyNext_zipB_item (i := i) D.sep (draws_sq ka (by first | exact hd | rw [← hd]; rfl) i1 a D.ai1 xs) (draws_sq kb (by first | exact hd | rw [← hd]; rfl) i2 b D.bi2 ys) hz hTI hTO ⟨h1, p⟩ ⟨h2, p2⟩ (List.getElem?_eq_some_iff.mp hx).1 (List.getElem?_eq_some_iff.mp hy).1
      fun v1 v2 h' tk q1 q2 z' TO' h1' h2' hT hsz hk => ?_
    obtain ⟨y1, e1, ru⟩ := q1
    obtain ⟨y2, e2, ru2⟩ := q2
    rw [hx] at e1
    rw [hy] at e2
    cases e1
    cases e2
    refine ⟨_, rfl, wpAny_letOwnedTupleGo_zipB (s := { s with heap := h', toks := tk }) z' fun h'' z'' sb => ?_⟩
    have hT2 : h''.get? s.heap.objs.size = some { cls := .type "tuple", data := .seq #[v1, v2] } := (sb.2 _ (Nat.ne_of_gt hzl)).trans hT
    have new : ObjOk X.prog X.w (upd H s.heap.objs.size (DM.TO { cls := .type "tuple", data := .seq #[v1, v2] } [x, y])) h'' s.heap.objs.size (DM.TO { cls := .type "tuple", data := .seq #[v1, v2] } [x, y]) :=
      obj_TO (by show 2 ≤ sizeLine; decide) (its := #[v1, v2]) (.cons ru (.cons ru2 .nil)) hT2 rfl rfl
    have I1 : Inv X pins σ (upd H s.heap.objs.size (DM.TO { cls := .type "tuple", data := .seq #[v1, v2] } [x, y])) { s with heap := h'', toks := tk } :=
      I.turnedNew (t' := tk) (ch := [z, TI, TO, i1, i2]) (fun c o hb q => (sb.2 c (fun q' => hb (by simp [q']))).trans (hk c o (fun q' => hb (by simp [q'])) (fun q' => hb (by simp [q'])) (fun q' => hb (by simp [q'])) (fun q' => hb (by simp [q'])) q)) hf (Nat.le_refl _) new
    refine ⟨.ref s.heap.objs.size, _, I1, rfl, ⟨_, x, y, _, rfl, I.hok.fresh (Nat.le_refl _), rfl, rfl, fun l hl => by rw [sq_inj ka I hl hqx]; exact hx, fun l hl => by rw [sq_inj kb I hl hqy]; exact hy⟩, ⟨z'', ?_, ⟨v1, v2, ?_⟩, ?_, ?_⟩, fun c hcm => ?_⟩
    · exact (sb.2 _ D.TIz).trans (hk _ _ D.TIz D.TITO D.TIi1 D.TIi2 hTI)
    · exact (sb.2 _ D.TOz).trans TO'
    · exact isIt_at h1'.1 fun o q => (sb.2 _ D.i1z).trans q
    · exact isIt_at h2'.1 fun o q => (sb.2 _ D.i2z).trans q
    · have hlt : c < s.heap.objs.size := by
        have e' : c = z ∨ c = TI ∨ c = TO ∨ c = i1 ∨ c = i2 := by simpa using hcm
        rcases e' with q | q | q | q | q
        · rw [q]; exact hzl
        · rw [q]; exact Heap.lt_size hTI
        · rw [q]; exact Heap.lt_size hTO
        · rw [q]; obtain ⟨_, e1, _⟩ := isIt_obj h1; exact Heap.lt_size e1
        · rw [q]; obtain ⟨_, e2, _⟩ := isIt_obj h2; exact Heap.lt_size e2
      rw [upd_ne (Nat.ne_of_lt hlt)]
      exact (hf c hcm).1
  done := by
    intro X hP hw hK hc i pins s σ H E I hf hst hg
    subst hP hw hK
    obtain ⟨hz, hTI, ⟨x0, y0, hTO⟩, h1, h2⟩ := hst
    obtain ⟨xs, ys, hqx, hqy, l1, l2, l3, l4⟩ := hg
    obtain ⟨p, pl⟩ := inv_sq ka I hqx
    obtain ⟨p2, pl2⟩ := inv_sq kb I hqy
    have hd := I.ok.hd hc
    exact pyNext_zipB_end (i := i) hd D.sep (draws_sq ka (by first | exact hd | rw [← hd]; rfl) i1 a D.ai1 xs) (draws_sq kb (by first | exact hd | rw [← hd]; rfl) i2 b D.bi2 ys) hz hTI hTO ⟨h1, p⟩ ⟨h2, p2⟩ l1 l2 l3 l4
      fun h' tk hk => ⟨rfl, I.turnedL (t' := tk) (ch := [z, TI, TO, i1, i2]) (fun c o hb q =>
      hk c o (fun q' => hb (by simp [q'])) (fun q' => hb (by simp [q'])) (fun q' => hb (by simp [q'])) (fun q' => hb (by simp [q'])) q) hf⟩
  self := fun A i s Q E st h => wpAny_pyIter_zipB st.1 h
/-! zip(.., strict=b) begins -/
abbrev gzZb (h : Heap) (o1 o2 : Obj) (b : Bool) : Heap := (gzO2 h o1 o2).push { cls := .type "zip", data := .fields #[.none, .bool false, .bool b, .ref ((h.push o1).push o2).objs.size, .ref (gzT2 h o1 o2).objs.size] }
namespace F
theorem typeCall_zip_s (a b c : Value) : checkTypeCall "zip" ⟨[a, b], [(Str.ofString "strict", c)]⟩ = pure () := by kernel_rfl
theorem newCall_zip_s (a b c : Value) : checkBuiltinCall "zip.__new__" ⟨[.type "zip", a, b], [(Str.ofString "strict", c)]⟩ = pure () := by kernel_rfl
theorem args_object_init_s (obj a b c : Value) : argsOk "object.__init__" ⟨[obj, a, b], [(Str.ofString "strict", c)]⟩ := by unfold argsOk; kernel_rfl
end F
set_option maxHeartbeats 2000000 in
theorem meets_zip_newS {v1 v2 : Value} {o1 o2 : Obj} {H1 H2 : Heap → Prop} (B1 : Begins v1 o1 H1) (B2 : Begins v2 o2 H2) (b : Bool) :
    Meets (Builtin.«zip.__new__» ⟨[.type "zip", v1, v2], [(Str.ofString "strict", .bool b)]⟩) (fun _ R s => (H1 s.heap ∧ H2 s.heap) ∧
      R (.ok (.ret (.ref (gzO2 s.heap o1 o2).objs.size))) { s with heap := gzZb s.heap o1 o2 b }) :=
  .of_wp fun prog w A R s h => by
    obtain ⟨hp, g, d, tk, os⟩ := s; obtain ⟨⟨h1, h2⟩, h⟩ := h
    have hsub := sub_zip
    have q1 : ∀ {A' : Around} {E : Value → Shared → Prop} {Q : Value → Shared → Prop}, Q (.ref hp.objs.size) ⟨(hp.push o1), g, d, tk, os⟩ → wpAny (model prog w) A' (pyIter v1) Q E ⟨hp, g, d, tk, os⟩ :=
      fun q => B1.iter prog w _ _ ⟨hp, g, d, tk, os⟩ _ h1 q
    have q2 : ∀ {A' : Around} {E : Value → Shared → Prop} {Q : Value → Shared → Prop}, Q (.ref (hp.push o1).objs.size) ⟨((hp.push o1).push o2), g, d, tk, os⟩ → wpAny (model prog w) A' (pyIter v2) Q E ⟨(hp.push o1), g, d, tk, os⟩ :=
      fun q => B2.iter prog w _ _ ⟨(hp.push o1), g, d, tk, os⟩ _ (B2.keeps _ _ h2 fun a o e => Heap.get?_push_of_some _ e) q
    have e2 : (Str.ofString "strict" != ("strict" : Str)) = false := by decide +kernel
    have e1 : (Str.ofString "strict" == ("strict" : Str)) = true := by decide +kernel
    wp_walk using q1, q2
    exact ⟨_, rfl, h⟩
section
variable {prog : Program} {w : World} {A : Around} {E : Value → Shared → Prop} {s : Shared}
theorem zipB_begins {b : Bool} {kw : List (Str × Value)} {v1 v2 : Value} {o1 o2 : Obj} {H1 H2 : Heap → Prop} {Q : Value → Shared → Prop} (hkw : (kw = [] ∧ b = false) ∨ kw = [(Str.ofString "strict", .bool b)]) (B1 : Begins v1 o1 H1) (B2 : Begins v2 o2 H2) (h1 : H1 s.heap) (h2 : H2 s.heap)
    (h : ∀ h', IsZipB h' (s.heap.objs.size + 4) (s.heap.objs.size + 2) (s.heap.objs.size + 3) b .none → IsTupOf2 h' (s.heap.objs.size + 2) (.ref s.heap.objs.size) (.ref (s.heap.objs.size + 1)) →
      IsTupOf2 h' (s.heap.objs.size + 3) .none .none → h'.get? s.heap.objs.size = some o1 → h'.get? (s.heap.objs.size + 1) = some o2 →
      (∀ c o, s.heap.get? c = some o → h'.get? c = some o) → Q (.ref (s.heap.objs.size + 4)) { s with heap := h' }) :
    wpAny (model prog w) A (call (.type "zip") [v1, v2] kw) Q E s := by
  rcases hkw with ⟨rfl, rfl⟩ | rfl
  · exact zip_begins2 B1 B2 h1 h2 fun h' a1 a2 a3 a4 a5 _ a7 => h h' a1 a2 a3 a4 a5 a7
  refine callType_newKw F.called_zip (by decide) (F.typeCall_zip_s _ _ _) (F.newCall_zip_s _ _ _) (fun obj => F.args_object_init_s obj _ _ _) F.entry_zip_new
    (meets_zip_newS B1 B2 b) ⟨⟨h1, h2⟩, ?_⟩
  have z1 : (s.heap.push o1).objs.size = s.heap.objs.size + 1 := by rw [Heap.size_push]
  have z2 : ((s.heap.push o1).push o2).objs.size = s.heap.objs.size + 2 := by rw [Heap.size_push, z1]
  have zT : (gzT2 s.heap o1 o2).objs.size = s.heap.objs.size + 3 := by rw [Heap.size_push, z2]
  have zO : (gzO2 s.heap o1 o2).objs.size = s.heap.objs.size + 4 := by rw [Heap.size_push, zT]
  have gZ : (gzZb s.heap o1 o2 b).get? (gzO2 s.heap o1 o2).objs.size = some _ := Heap.get?_push_size _ rfl
  have gO : (gzZb s.heap o1 o2 b).get? (gzT2 s.heap o1 o2).objs.size = some _ := Heap.get?_push_of_some _ (Heap.get?_push_size _ rfl)
  have gT : (gzZb s.heap o1 o2 b).get? ((s.heap.push o1).push o2).objs.size = some _ := Heap.get?_push_of_some _ (Heap.get?_push_of_some _ (Heap.get?_push_size _ rfl))
  have g1 : (gzZb s.heap o1 o2 b).get? s.heap.objs.size = some o1 := Heap.get?_push_of_some _ (Heap.get?_push_of_some _ (Heap.get?_push_of_some _ (Heap.get?_push_of_some _ (Heap.get?_push_size _ B1.free))))
  have g2 : (gzZb s.heap o1 o2 b).get? (s.heap.push o1).objs.size = some o2 := Heap.get?_push_of_some _ (Heap.get?_push_of_some _ (Heap.get?_push_of_some _ (Heap.get?_push_size _ B2.free)))
  rw [zO, zT, z2] at gZ
  rw [zT] at gO
  rw [z2, z1] at gT
  rw [z1] at g2
  show _ ∧ _
  rw [zO]
  exact ⟨⟨_, gZ, rfl⟩, h _ gZ gT gO g1 g2 fun c o e => Heap.get?_push_of_some _ (Heap.get?_push_of_some _ (Heap.get?_push_of_some _ (Heap.get?_push_of_some _ (Heap.get?_push_of_some _ e))))⟩
end
/-! a built-in class called with keywords -/
section
variable {M : Model} {A : Around} {E : Value → Shared → Prop} {s : Shared} {env : PySem.Env}
theorem callWith_type_kwD {pos : Pos} {T : String} {first : List Value} {args : List (Bool × Sem Value)} {keywords : List (Option Str × Sem Value)} {Q : Value → Shared → Prop}
    (hplain : args.any (·.1) = false) (hkw : keywords.any (·.1.isNone) = false)
    (h : wpAny M A (evalArgs (.type T) true args keywords) (fun a s₁ => wpAny M A (call (.type T) (first ++ a.pos) a.kw) Q E s₁) E s) : wpAny M A (callWith pos (.type T) first args keywords) Q E s := by
  unfold callWith
  refine wpAny_bind (wpAny_holding (wpAny_mono h (fun a s₁ h₁ => wpAny_bind (wpAny_standAt ?_)) fun _ _ x => x))
  simp only [hplain, hkw, Bool.or_false]
  refine wpAny_bind (wpAny_pure ?_)
  exact wpAny_bind (wpAny_mono h₁ (fun r s₂ hr => wpAny_bind (wpAny_holding (wpAny_point (wpAny_pure hr)))) fun _ _ x => x)
theorem callWith_tkw {pos : Pos} {T : String} {e : Expr} {rest : List Expr} {kws : List Keyword} {Q : Value → Shared → Prop}
    (h : wpAny M A (spliced (backTo pos (starEach (e :: rest) env))) (fun vs s₁ => wpAny M A (evalAll ((backToKw pos (keywordEach kws env)).map (·.2)))
      (fun kvs s₂ => wpAny M A (call (.type T) vs (((backToKw pos (keywordEach kws env)).filterMap (·.1)).zip kvs)) Q E s₂) E s₁) E s)
    (he : backTo pos (starEach (e :: rest) env) = (false, eval e env) :: backTo pos (starEach rest env)) (hplain : (backTo pos (starEach (e :: rest) env)).any (·.1) = false)
    (hall : (backToKw pos (keywordEach kws env)).all (·.1.isSome) = true) (hkw : (backToKw pos (keywordEach kws env)).any (·.1.isNone) = false) :
    wpAny M A (callWith pos (.type T) [] (backTo pos (starEach (e :: rest) env)) (backToKw pos (keywordEach kws env))) Q E s := by
  refine callWith_type_kwD hplain hkw ?_
  rw [he] at h ⊢
  exact evalArgs_kwB hall h
end
def iZipB (K : PySem.W.Frag) (st : Bool) (ta : TA) : TI := fun σ H R => ta σ H fun vs H1 => ∃ a b xs ys ka kb, vs = [srcV ka a, srcV kb b] ∧ SqK ka K H1 a xs ∧ SqK kb K H1 b ys ∧ R (Itq K ka kb st a b) H1
theorem zipB_run {X : Cx} {pins : List (Addr × Obj)} {σ : L2.St} {H1 : Hp} {R : It → Hp → Prop} {s1 : Shared} {a b : Addr} {ua ub : Value} {xs ys : List V} {ka kb : SK} {st : Bool} {kw : List (Str × Value)} {elts : List Expr} {kk : Nat} {tpos : Pos} (hkw : (kw = [] ∧ st = false) ∨ kw = [(Str.ofString "strict", .bool st)])
    (ra : RelV (srcV ka a) ua) (rb : RelV (srcV kb b) ub) (I1 : Inv X pins σ H1 s1) (hqx : SqK ka X.K H1 a xs) (hqy : SqK kb X.K H1 b ys) (q : R (Itq X.K ka kb st a b) H1) :
    wpAny (model X.prog X.w) X.A (call (.type "zip") [ua, ub] kw) (fun v s2 => wpAny (model X.prog X.w) X.A (pyIter v) (PIE X pins σ (.Tuple elts kk tpos) R) X.xe s2) X.xe s1 := by
  have fresh5 : ∀ c, c ∈ [s1.heap.objs.size + 4, s1.heap.objs.size + 2, s1.heap.objs.size + 3, s1.heap.objs.size, s1.heap.objs.size + 1] → FpOk X pins H1 c := fun c hcm => by
    have hle : s1.heap.objs.size ≤ c := by
      simp only [List.mem_cons, List.not_mem_nil, or_false] at hcm
      omega
    exact I1.fpOk hle (I1.hok.fresh hle)
  obtain ⟨p1, l1⟩ := inv_sq ka I1 hqx
  obtain ⟨p2, l2⟩ := inv_sq kb I1 hqy
  refine zipB_begins hkw (begins_sq ka a ua ra xs) (begins_sq kb b ub rb ys) p1 p2 fun h' hz hTI hTO h1 h2 hk => wpAny_pyIter_zipB hz ?_
  have I2 : Inv X pins σ H1 { s1 with heap := h' } := I1.kept (t' := s1.toks) hk
  exact ⟨s1.heap.objs.size + 4, _, _, _, H1, rfl, I2, turn_zipB (zapart s1.heap.objs.size a b l1 l2), ⟨hz, hTI, ⟨_, _, hTO⟩, isIt_begin ka ra h1, isIt_begin kb rb h2⟩, fresh5, q⟩
theorem pi_zipB0 {X : Cx} {e e2 : Expr} {ta : TA} {p pos tpos : Pos} {elts : List Expr} {kk : Nat} (hg : Gl X "zip") (hm : X.mg "zip" = none) (ha : PA X [e, e2] ta)
    (hs : starEach [e, e2] X.env = (false, eval e X.env) :: starEach [e2] X.env := by rfl) (hpl : (backTo pos (starEach [e2] X.env)).any (·.1) = false := by rfl) :
    PI X (.Tuple elts kk tpos) (.Call (.Name "zip" p) [e, e2] [] pos) (iZipB X.K false ta) := by
  refine ⟨fun pins s σ H R I h => ?_⟩
  refine Call_ (ld_blt I hg hm PyProof.Rows.boot_zip (PyProof.Rows.callWith_type1 (thn (ha.run pos pins s σ H _ I h) fun us s1 ⟨vs, H1, I1, r1, q1⟩ => ?_) hs hpl))
  obtain ⟨a, b, xs, ys, ka, kb, ex, hqx, hqy, q⟩ := q1
  subst ex
  cases r1 with
  | cons r rr => cases rr with
    | cons r' rr =>
      cases rr
      exact zipB_run (.inl ⟨rfl, rfl⟩) r r' I1 hqx hqy q
theorem pi_zipB1 {X : Cx} {e e2 : Expr} {st : Bool} {ta : TA} {p pos tpos kp cp : Pos} {cj} {elts : List Expr} {kk : Nat} (hg : Gl X "zip") (hm : X.mg "zip" = none) (ha : PA X [e, e2] ta)
    (he : backTo pos (starEach [e, e2] X.env) = (false, eval e X.env) :: backTo pos (starEach [e2] X.env) := by rfl) (hpl : (backTo pos (starEach [e, e2] X.env)).any (·.1) = false := by rfl) :
    PI X (.Tuple elts kk tpos) (.Call (.Name "zip" p) [e, e2] [⟨some (Str.ofString "strict"), .Constant (.bool st) cj cp, kp⟩] pos) (iZipB X.K st ta) := by
  refine ⟨fun pins s σ H R I h => ?_⟩
  refine wpAny_Call_Name_kw (ld_blt I hg hm PyProof.Rows.boot_zip ?_)
  refine callWith_tkw (thn (ha.run pos pins s σ H _ I h) fun us s1 ⟨vs, H1, I1, r1, q1⟩ => ?_) he hpl rfl rfl
  refine kws_cons (wpAny_pure (kws_nil ?_))
  obtain ⟨a, b, xs, ys, ka, kb, ex, hqx, hqy, q⟩ := q1
  subst ex
  cases r1 with
  | cons r rr => cases rr with
    | cons r' rr =>
      cases rr
      exact zipB_run (.inr rfl) r r' I1 hqx hqy q
/-! as data -/
def sqOf : D → Option (List D)
  | .lst xs => some xs
  | .tup xs => some xs
  | .scr ns => some (ns.map D.int)
  | .v (.str s) => some (s.cps.toList.map fun c => D.str ⟨#[c]⟩)
  | _ => none
@[simp] theorem sqOf_l (xs : List D) : sqOf (.lst xs) = some xs := rfl
@[simp] theorem sqOf_t (xs : List D) : sqOf (.tup xs) = some xs := rfl
def zipB (st : Bool) : List D → Option (List D)
  | [x, y] => match sqOf x, sqOf y with
    | some xs, some ys => if st && xs.length != ys.length then none else some ((xs.zip ys).map pairD)
    | _, _ => none
  | _ => none
def iZipBM (st : Bool) (m : Mi (List D)) : Mi (List D) := bnd m fun xs => lift (zipB st xs)
section
variable {X : Cx} {W : WX} {p p1 p2 : Bool} {G : List Sh} {e e2 : Expr} {elts : List Expr} {kk : Nat} {pos q tpos : Pos} {F F1 : FS} {H H1 : Hp}
theorem rps_chars {K : PySem.W.Frag} {F : FS} {H : Hp} (cs : List Nat) : Rps K F H (cs.map fun c => V.str ⟨#[c]⟩) (cs.map fun c => D.str ⟨#[c]⟩) := by
  induction cs with
  | nil => exact .nil
  | cons c cs ih => exact .cons (.v _) ih
theorem sq_of {K : PySem.W.Frag} {v : V} {d : D} {ds : List D} (r : Rp K F H v d) (h : sqOf d = some ds) : ∃ a k vs, v = srcV k a ∧ SqK k K H a vs ∧ (∀ F1 H1, Fut F H F1 H1 → SqK k K H1 a vs) ∧ Rps K F H vs ds := by
  cases r with
  | lst f h1 r1 => cases h; exact ⟨_, .l, _, rfl, SqL.of h1, fun F1 H1 m => SqL.of (m.l _ _ f h1), r1⟩
  | tup h1 r1 => cases h; exact ⟨_, .t, _, rfl, h1.sq, fun F1 H1 m => (h1.mono m).sq, r1⟩
  | scr h1 => cases h; exact ⟨_, .l, _, rfl, h1.sq, fun F1 H1 m => (h1.mono m).sq, Rps.ints _⟩
  | v =>
    cases v with
    | str z => cases h; exact ⟨mainGlobals, .x z, _, rfl, ⟨rfl, rfl⟩, fun F1 H1 m => ⟨rfl, rfl⟩, rps_chars _⟩
    | _ => cases h
  | _ => cases h
theorem itd_zipB {K : PySem.W.Frag} {st : Bool} {s t : Addr} {ks kt : SK} {vs us : List V} {ds es : List D} (h1 : ∀ F1 H1, Fut F H F1 H1 → SqK ks K H1 s vs) (r1 : Rps K F H vs ds) (h2 : ∀ F1 H1, Fut F H F1 H1 → SqK kt K H1 t us) (r2 : Rps K F H us es) (hst : st = true → ds.length = es.length) :
    ItD K F H (Itq K ks kt st s t) ((ds.zip es).map pairD) := by
  intro F1 H1 m nf i
  have q1 := h1 F1 H1 m
  have q2 := h2 F1 H1 m
  have l1 := r1.length
  have l2 := r2.length
  refine ⟨fun hi hi2 => ⟨vs, us, q1, q2, ?_⟩, fun d e => ?_⟩
  · rw [List.length_map, List.length_zip] at hi hi2
    refine ⟨by omega, by omega, by omega, fun hs => ?_⟩
    have := hst hs
    omega
  · obtain ⟨x, y, ex, ey, rfl⟩ := zip_get e
    obtain ⟨v, e1, g1⟩ := r1.get ex
    obtain ⟨u, e2, g2⟩ := r2.get ey
    refine ⟨⟨vs, us, v, u, q1, q2, e1, e2⟩, fun z H2 yl => ?_⟩
    obtain ⟨T, x', y', o, rfl, hT, ho, rfl, k1, k2⟩ := yl
    have := k1 vs q1
    rw [e1] at this; cases this
    have := k2 us q2
    rw [e2] at this; cases this
    exact pair_new hT ho (g1.mono m) (g2.mono m)
theorem zipB_di {st : Bool} {m : Mi (List D)} {t : TA} (l : Tl X W p (fun F H vs ds => Rps X.K F H vs ds ∧ vs.length = [e, e2].length) G t m) : Tl X W (p && true) (ItD X.K) G (iZipB X.K st t) (iZipBM st m) := by
  intro F H A σ ρ R wf en hp
  refine l.use wf en hp fun ds ρ1 xs H1 F1 A1 s1 wf1 en1 r1 _ hp => ?_
  obtain ⟨z, e, hp⟩ := hp.lift
  obtain ⟨r1, hl⟩ := r1
  cases r1 with
  | nil => simp at hl
  | cons ra r1 =>
    cases r1 with
    | nil => simp at hl
    | cons rb r1 =>
      cases r1 with
      | cons _ _ => simp at hl
      | nil =>
        unfold zipB at e
        simp only at e
        split at e
        · rename_i x y xs ys ex ey
          obtain ⟨a, ka, vs, rfl, qa, fa, rsa⟩ := sq_of ra ex
          obtain ⟨b, kb, us, rfl, qb, fb, rsb⟩ := sq_of rb ey
          split at e
          · cases e
          · rename_i hn
            cases e
            refine ⟨a, b, vs, us, ka, kb, rfl, qa, qb, hp.fin0 wf1 en1 (itd_zipB fa rsa fb rsb fun hs => ?_)⟩
            subst hs
            simpa using hn
        · cases e
theorem di_zipB0 {m : Mi (List D)} (hg : Gl X "zip") (hm : X.mg "zip" = none) (ha : DA X W p G [e, e2] m)
    (hs : starEach [e, e2] X.env = (false, eval e X.env) :: starEach [e2] X.env := by rfl) (hpl : (backTo pos (starEach [e2] X.env)).any (·.1) = false := by rfl) :
    DI X W (p && true) G (.Tuple elts kk tpos) (.Call (.Name "zip" q) [e, e2] [] pos) (iZipBM false m) := by
  obtain ⟨t, pe, l⟩ := ha
  exact ⟨_, pi_zipB0 hg hm pe hs hpl, zipB_di l⟩
theorem di_zipB1 {st : Bool} {m : Mi (List D)} {kp cp : Pos} {cj} (hg : Gl X "zip") (hm : X.mg "zip" = none) (ha : DA X W p G [e, e2] m)
    (he : backTo pos (starEach [e, e2] X.env) = (false, eval e X.env) :: backTo pos (starEach [e2] X.env) := by rfl) (hpl : (backTo pos (starEach [e, e2] X.env)).any (·.1) = false := by rfl) :
    DI X W (p && true) G (.Tuple elts kk tpos) (.Call (.Name "zip" q) [e, e2] [⟨some (Str.ofString "strict"), .Constant (.bool st) cj cp, kp⟩] pos) (iZipBM st m) := by
  obtain ⟨t, pe, l⟩ := ha
  exact ⟨_, pi_zipB1 hg hm pe he hpl, zipB_di l⟩
end
/-! enumerate -/
theorem enumK_end {prog : Program} {w : World} {A : Around} {E : Value → Shared → Prop} {s : Shared} {e it : Addr} {fp : List Addr} {n : Nat} {P : Nat → Value → Prop} {St : Nat → Heap → Prop} {c : Int} {old : Value} {Q : Option Value → Shared → Prop} (Dr : Draws prog w A.in1 it fp n P St)
    (he : IsEnum s.heap e it c old) (st : St n s.heap) (hQ : ∀ h', Heap.ExtBut it s.heap h' → Q none { s with heap := h' }) : wpAny (model prog w) A (pyNext (.ref e)) Q E s := by
  have hT : s.TypeIs (.ref e) "enumerate" := ⟨_, he, rfl⟩
  unfold pyNext
  refine wpAny_bind (wpAny_attempt (wpAny_callSpecial?_slot (name := Str.ofString "__next__") hT F.slot_enumerate_next
    (wpAny_call_entry F.slot_enumerate_next hT F.entry_enumerate_next ?_ (F.args_enumerate_next_1 _))))
  show wpAny _ _ (field (.ref e) 2 >>= _) _ _ _
  refine wpAny_bind (wpAny_field he rfl (x := .ref it) rfl ?_)
  refine wpAny_bind (Dr.done s _ _ st fun h' x he' hx' => ?_)
  obtain ⟨o, ho, hc⟩ := hx'
  refine wpAny_bind (wpAny_isInstance (T := "StopIteration") (b := true) ⟨o, ho, hc⟩ isSubtype_stop ?_)
  exact wpAny_pure (hQ _ he')
def IteK (k : SK) (K : PySem.W.Frag) (a : Addr) : It :=
  ⟨fun i H => ∃ (xs : List V) (x : V), SqK k K H a xs ∧ xs[i]? = some x,
    fun i H v H' => ∃ T x o, v = .ref T ∧ H T = none ∧ o.dict = none ∧ H' = upd H T (TO o [.int (i : Nat), x]) ∧ ∀ xs, SqK k K H a xs → xs[i]? = some x,
    fun i H => ∃ xs : List V, SqK k K H a xs ∧ i = xs.length⟩
theorem turn_enumK {P : Program} {w : World} {K : PySem.W.Frag} {elts : List Expr} {kk : Nat} {tpos : Pos} (k : SK) (a e it : Addr) (hae : a ≠ e) (hai : a ≠ it) :
    Turn P w K (.Tuple elts kk tpos) (IteK k K a) [e, it] e (fun i h => (∃ old, IsEnum h e it ((i : Nat) : Int) old) ∧ IsIt k h it a i ∧ e ≠ it) where
  mem := by simp
  obj := fun i h st b hb => by
    obtain ⟨⟨old, he⟩, hit, _⟩ := st
    have e' : b = e ∨ b = it := by simpa using hb
    rcases e' with z | z
    · rw [z]; exact ⟨_, he, fun v q => nomatch q⟩
    · rw [z]; exact isIt_obj hit
  keep := fun i h h' st q => let ⟨⟨old, he⟩, hi, hne⟩ := st; ⟨⟨old, q e (by simp) _ he⟩, isIt_at hi fun o z => q it (by simp) o z, hne⟩
  item := by
    intro X hP hw hK hc i pins s σ H E I hf st hg
    subst hP hw hK
    obtain ⟨⟨old, he⟩, hit, hne⟩ := st
    obtain ⟨xs, x, hq, hx⟩ := hg
    obtain ⟨p, _⟩ := inv_sq k I hq
    have hel : e < s.heap.objs.size := Heap.lt_size he
    have hil : it < s.heap.objs.size := by obtain ⟨_, q, _⟩ := isIt_obj hit; exact Heap.lt_size q
    have hh : X.A.in1.handled = none := I.ok.hd hc
    have Dr := draws_sq k (prog := X.prog) (w := X.w) hh it a hai xs
    refine wpAny_pyNext_enum_itemD Dr he ⟨hit, p⟩ (List.getElem?_eq_some_iff.mp hx).1 hne (by simp [hne, Ne.symm hae]) fun u' h' tk hu' ho st' hT hsz hk => ?_
    obtain ⟨y, ey, ru⟩ := hu'
    rw [hx] at ey
    cases ey
    refine ⟨_, rfl, wpAny_letOwnedTupleGo_enum (s := { s with heap := h', toks := tk + 1 }) ho fun h'' he' sb => ?_⟩
    have hT2 : h''.get? s.heap.objs.size = some { cls := .type "tuple", data := .seq #[.int i tk, u'] } := (sb.2 _ (Nat.ne_of_gt hel)).trans hT
    have new : ObjOk X.prog X.w (upd H s.heap.objs.size (DM.TO { cls := .type "tuple", data := .seq #[.int i tk, u'] } [.int (i : Nat), x])) h'' s.heap.objs.size (DM.TO { cls := .type "tuple", data := .seq #[.int i tk, u'] } [.int (i : Nat), x]) :=
      obj_TO (by show 2 ≤ sizeLine; decide) (its := #[.int i tk, u']) (.cons ⟨_, rfl⟩ (.cons ru .nil)) hT2 rfl rfl
    have I1 : Inv X pins σ (upd H s.heap.objs.size (DM.TO { cls := .type "tuple", data := .seq #[.int i tk, u'] } [.int (i : Nat), x])) { s with heap := h'', toks := tk + 1 } :=
      I.turnedNew (ch := [e, it]) (fun b ob hb q => (sb.2 b (fun z => hb (by simp [z]))).trans (hk b ob (fun z => hb (by simp [z])) (fun z => hb (by simp [z])) q)) hf (Nat.le_refl _) new
    refine ⟨.ref s.heap.objs.size, _, I1, rfl, ⟨_, x, _, rfl, I.hok.fresh (Nat.le_refl _), rfl, rfl, fun ys hy => by rw [sq_inj k I hy hq]; exact hx⟩, ⟨⟨u', ?_⟩, isIt_at st'.1 fun o q => (sb.2 it (Ne.symm hne)).trans q, hne⟩, fun b hb => ?_⟩
    · have e1 : ((i + 1 : Nat) : Int) = (i : Int) + 1 := by omega
      rw [e1]; exact he'
    · have hb' : b < s.heap.objs.size := by
        have e' : b = e ∨ b = it := by simpa using hb
        rcases e' with z | z
        · rw [z]; exact hel
        · rw [z]; exact hil
      rw [upd_ne (Nat.ne_of_lt hb')]
      exact (hf b hb).1
  done := by
    intro X hP hw hK hc i pins s σ H E I hf st hg
    subst hP hw hK
    obtain ⟨⟨old, he⟩, hit, hne⟩ := st
    obtain ⟨xs, hq, hx⟩ := hg
    obtain ⟨p, _⟩ := inv_sq k I hq
    obtain ⟨f0, f1, f2, f3, f4, f5⟩ := hf it (by simp)
    have hh : X.A.in1.handled = none := I.ok.hd hc
    rw [hx] at hit
    exact enumK_end (draws_sq k (prog := X.prog) (w := X.w) hh it a hai xs) he ⟨hit, p⟩ fun h' eb => ⟨rfl, I.turned (t' := s.toks) (fun b o hb q => eb b o hb q) f0 f1 f3 f4 f5⟩
  self := fun A i s Q E st h => let ⟨⟨_, he⟩, _⟩ := st; wpAny_pyIter_enum he h
def iEnumK (K : PySem.W.Frag) (ta : TA) : TI := fun σ H R => ta σ H fun vs H1 => ∃ a xs k, vs = [srcV k a] ∧ SqK k K H1 a xs ∧ R (IteK k K a) H1
theorem pi_enumK {X : Cx} {e : Expr} {ta : TA} {p pos tpos : Pos} {elts : List Expr} {kk : Nat} (hg : Gl X "enumerate") (hm : X.mg "enumerate" = none) (ha : PA X [e] ta) (hs : starEach [e] X.env = [(false, eval e X.env)] := by rfl) :
    PI X (.Tuple elts kk tpos) (.Call (.Name "enumerate" p) [e] [] pos) (iEnumK X.K ta) := by
  refine ⟨fun pins s σ H R I h => ?_⟩
  refine Call_ (ld_blt I hg hm boot_enumerate (PyProof.Rows.callWith_type1 (thn (ha.run pos pins s σ H _ I h) fun us s1 ⟨vs, H1, I1, r1, q1⟩ => ?_) hs rfl))
  obtain ⟨a, xs, k, ex, hq, q⟩ := q1
  subst ex
  cases r1 with
  | cons r rr =>
    cases rr
    have fresh : ∀ b, b ∈ [s1.heap.objs.size + 1, s1.heap.objs.size] → FpOk X pins H1 b := fun b hb => by
      have e' : b = s1.heap.objs.size + 1 ∨ b = s1.heap.objs.size := by simpa using hb
      have hle : s1.heap.objs.size ≤ b := by
        rcases e' with z | z
        · rw [z]; exact Nat.le_add_right _ _
        · rw [z]; exact Nat.le_refl _
      exact I1.fpOk hle (I1.hok.fresh hle)
    obtain ⟨p', hal⟩ := inv_sq k I1 hq
    refine call_enum1 (begins_sq k a _ r xs) p' fun h' he hit hsz hk => wpAny_pyIter_enum he ?_
    have I2 : Inv X pins σ H1 { s1 with heap := h' } := I1.kept (t' := s1.toks) hk
    exact ⟨s1.heap.objs.size + 1, [s1.heap.objs.size + 1, s1.heap.objs.size], _, _, H1, rfl, I2, turn_enumK k a (s1.heap.objs.size + 1) s1.heap.objs.size (Nat.ne_of_lt (Nat.lt_succ_of_lt hal)) (Nat.ne_of_lt hal), ⟨⟨.none, he⟩, isIt_begin k r hit, Nat.succ_ne_self _⟩, fresh, q⟩
def enumOfA : List D → Option (List D)
  | [x] => (sqOf x).map (enumFrom 0)
  | _ => none
def iEnumAM (m : Mi (List D)) : Mi (List D) := bnd m fun xs => lift (enumOfA xs)
section
variable {X : Cx} {W : WX} {p p1 p2 : Bool} {G : List Sh} {e a b : Expr} {elts : List Expr} {kk : Nat} {pos q tpos : Pos} {F F1 : FS} {H H1 : Hp}
theorem itd_enumK {K : PySem.W.Frag} {k : SK} {s : Addr} {vs : List V} {ds : List D} (h1 : ∀ F1 H1, Fut F H F1 H1 → SqK k K H1 s vs) (r1 : Rps K F H vs ds) : ItD K F H (IteK k K s) (enumFrom 0 ds) := by
  intro F1 H1 m nf i
  have q1 := h1 F1 H1 m
  refine ⟨fun hi hi2 => ⟨vs, q1, by rw [enum_len] at hi hi2; rw [r1.length]; omega⟩, fun d e => ?_⟩
  obtain ⟨x, ex, rfl⟩ := enum_get e
  obtain ⟨v, e1, g1⟩ := r1.get ex
  refine ⟨⟨vs, v, q1, e1⟩, fun z H2 yl => ?_⟩
  obtain ⟨T, x', o, rfl, hT, ho, rfl, k1⟩ := yl
  have := k1 vs q1
  rw [e1] at this; cases this
  rw [Nat.zero_add]
  exact pair_new hT ho (.v _) (g1.mono m)
theorem di_enumA {m : Mi (List D)} (hg : Gl X "enumerate") (hm : X.mg "enumerate" = none) (ha : DA X W p G [a] m) (hs : starEach [a] X.env = [(false, eval a X.env)] := by rfl) :
    DI X W (p && true) G (.Tuple elts kk tpos) (.Call (.Name "enumerate" q) [a] [] pos) (iEnumAM m) := by
  obtain ⟨t, pe, l⟩ := ha
  refine ⟨_, pi_enumK hg hm pe hs, fun F H A σ ρ R wf en hp => ?_⟩
  refine l.use wf en hp fun ds ρ1 xs H1 F1 A1 s1 wf1 en1 r1 _ hp => ?_
  obtain ⟨z, e, hp⟩ := hp.lift
  unfold enumOfA at e
  split at e
  · obtain ⟨ys, e1, e2⟩ := Option.map_eq_some_iff.mp e
    subst e2
    obtain ⟨u, rfl, t1⟩ := rps1 r1.1
    obtain ⟨s, k, vs, rfl, h1, h2, h3⟩ := sq_of t1 e1
    exact ⟨s, vs, k, rfl, h1, hp.fin0 wf1 en1 (itd_enumK h2 h3)⟩
  · cases e
end
end DM
/-! DmP: mirrors are run: rows for simp, each at a state. -/
namespace DM
open PySem PySem.Spec PyProof.Rows L2
abbrev OEnv := List (Option D)
def Out.seq (o : Out Ctl) (n : Ms) : Out Ctl := match o with
  | .ok .nx ρ1 => n ρ1
  | o => o
@[simp] theorem Out.seq_nx (ρ : OEnv) (n : Ms) : (Out.ok .nx ρ : Out Ctl).seq n = n ρ := rfl
@[simp] theorem Out.seq_bk (ρ : OEnv) (n : Ms) : (Out.ok .bk ρ : Out Ctl).seq n = .ok .bk ρ := rfl
@[simp] theorem Out.seq_ct (ρ : OEnv) (n : Ms) : (Out.ok .ct ρ : Out Ctl).seq n = .ok .ct ρ := rfl
@[simp] theorem Out.seq_rt (d : D) (ρ : OEnv) (n : Ms) : (Out.ok (.rt d) ρ : Out Ctl).seq n = .ok (.rt d) ρ := rfl
@[simp] theorem Out.seq_exc (x : Xn) (ρ : OEnv) (n : Ms) : (Out.exc x ρ : Out Ctl).seq n = .exc x ρ := rfl
@[simp] theorem Out.seq_bad (n : Ms) : (Out.bad : Out Ctl).seq n = .bad := rfl
def FO.at_ (o : FO) (ρ : OEnv) : Out D := match o with
  | .ok d _ => .ok d ρ
  | .exc x _ => .exc x ρ
  | .bad => .bad
@[simp] theorem FO.at_ok (d : D) (ds : List D) (ρ : OEnv) : (FO.ok d ds).at_ ρ = .ok d ρ := rfl
@[simp] theorem FO.at_exc (x : Xn) (ds : List D) (ρ : OEnv) : (FO.exc x ds).at_ ρ = .exc x ρ := rfl
@[simp] theorem FO.at_bad (ρ : OEnv) : FO.bad.at_ ρ = .bad := rfl
def FO.back (o : FO) (xs : List Ag) (ρ : OEnv) : Out D := match o with
  | .ok d ds => (match putBack xs ds ρ with | some ρ' => .ok d ρ' | none => .bad)
  | .exc x ds => (match putBack xs ds ρ with | some ρ' => .exc x ρ' | none => .bad)
  | .bad => .bad
@[simp] theorem FO.back_ok (d : D) (ds : List D) (xs : List Ag) (ρ : OEnv) : (FO.ok d ds).back xs ρ = (match putBack xs ds ρ with | some ρ' => .ok d ρ' | none => .bad) := rfl
@[simp] theorem FO.back_exc (x : Xn) (ds : List D) (xs : List Ag) (ρ : OEnv) : (FO.exc x ds).back xs ρ = (match putBack xs ds ρ with | some ρ' => .exc x ρ' | none => .bad) := rfl
def Out.fo (o : Out Ctl) (sh : List Sh) (sr : Sh) (ds : List D) : FO := match o with
  | .ok .nx ρ => if isFz sr then (match fin sh ds ρ with | some ds' => .ok .non ds' | none => .bad) else .bad
  | .ok (.rt d) ρ => (match fin sh ds ρ with | some ds' => .ok d ds' | none => .bad)
  | .exc x ρ => (match fin sh ds ρ with | some ds' => .exc x ds' | none => .bad)
  | _ => .bad
@[simp] theorem Out.fo_rt (d : D) (ρ : OEnv) (sh : List Sh) (sr : Sh) (ds : List D) : (Out.ok (.rt d) ρ : Out Ctl).fo sh sr ds = (match fin sh ds ρ with | some ds' => .ok d ds' | none => .bad) := rfl
@[simp] theorem Out.fo_nx (ρ : OEnv) (sh : List Sh) (ds : List D) : (Out.ok .nx ρ : Out Ctl).fo sh .fz ds = (match fin sh ds ρ with | some ds' => .ok .non ds' | none => .bad) := rfl
@[simp] theorem Out.fo_exc (x : Xn) (ρ : OEnv) (sh : List Sh) (sr : Sh) (ds : List D) : (Out.exc x ρ : Out Ctl).fo sh sr ds = (match fin sh ds ρ with | some ds' => .exc x ds' | none => .bad) := rfl
def Out.turn (o : Out Ctl) (k : Ms) : Out Ctl := match o with
  | .ok .nx ρ2 => k ρ2
  | .ok .ct ρ2 => k ρ2
  | .ok .bk ρ2 => .ok .nx ρ2
  | .ok (.rt d) ρ2 => .ok (.rt d) ρ2
  | .exc x ρ2 => .exc x ρ2
  | .bad => .bad
@[simp] theorem Out.turn_nx (ρ : OEnv) (n : Ms) : (Out.ok .nx ρ : Out Ctl).turn n = n ρ := rfl
@[simp] theorem Out.turn_ct (ρ : OEnv) (n : Ms) : (Out.ok .ct ρ : Out Ctl).turn n = n ρ := rfl
@[simp] theorem Out.turn_bk (ρ : OEnv) (n : Ms) : (Out.ok .bk ρ : Out Ctl).turn n = .ok .nx ρ := rfl
@[simp] theorem Out.turn_rt (d : D) (ρ : OEnv) (n : Ms) : (Out.ok (.rt d) ρ : Out Ctl).turn n = .ok (.rt d) ρ := rfl
@[simp] theorem Out.turn_exc (x : Xn) (ρ : OEnv) (n : Ms) : (Out.exc x ρ : Out Ctl).turn n = .exc x ρ := rfl
def toO {α : Type} (o : Option α) (ρ : OEnv) : Out α := lift o ρ
@[simp] theorem toO_some {α : Type} (a : α) (ρ : OEnv) : toO (some a) ρ = .ok a ρ := rfl
@[simp] theorem toO_none {α : Type} (ρ : OEnv) : toO (none : Option α) ρ = .bad := rfl
def toN (o : Option OEnv) : Out Ctl := match o with
  | some ρ => .ok .nx ρ
  | none => .bad
@[simp] theorem toN_some (ρ : OEnv) : toN (some ρ) = .ok .nx ρ := rfl
theorem bind_ext {α β : Type} {o : Out α} {k k' : α → OEnv → Out β} (h : ∀ x s, k x s = k' x s) : o.bind k = o.bind k' := by
  cases o <;> first | rfl | exact h _ _
def getV (o : Option (Option D)) (ρ : OEnv) : Out D := match o with
  | some (some d) => .ok d ρ
  | _ => .bad
@[simp] theorem getV_some (d : D) (ρ : OEnv) : getV (some (some d)) ρ = .ok d ρ := rfl
@[simp] theorem eVar_app (i : Nat) (ρ : OEnv) : eVar i ρ = getV ρ[i]? ρ := by
  unfold eVar getV
  split <;> simp_all
section
variable (ρ : OEnv)
@[simp] theorem bnd_app {α β : Type} (m : Mi α) (k : α → Mi β) : bnd m k ρ = (m ρ).bind k := rfl
@[simp] theorem ret_app {α : Type} (a : α) : ret a ρ = .ok a ρ := rfl
@[simp] theorem lift_app {α : Type} (o : Option α) : lift o ρ = toO o ρ := rfl
@[simp] theorem eK_app (d : D) : eK d ρ = .ok d ρ := rfl
@[simp] theorem aNil_app : aNil ρ = .ok [] ρ := rfl
@[simp] theorem oNone_app : oNone ρ = .ok none ρ := rfl
@[simp] theorem tYesM_app : tYesM ρ = .ok true ρ := rfl
@[simp] theorem eDnew_app : eDnew ρ = .ok (.dct []) ρ := rfl
end
def eOp_k2 (f : D → D → Option D) (x : D) (y : D) : Mi (D) := fun r => toO (f x y) r
@[simp] theorem eOp_k2_app (f : D → D → Option D) (x : D) (y : D) (r : OEnv) : eOp_k2 f x y r = toO (f x y) r := rfl
def eOp_k1 (f : D → D → Option D) (mb : Mi D) (x : D) : Mi (D) := bnd (mb) (eOp_k2 f x)
@[simp] theorem eOp_k1_app (f : D → D → Option D) (mb : Mi D) (x : D) (r : OEnv) : eOp_k1 f mb x r = (mb r).bind (eOp_k2 f x) := rfl
theorem eOp_def (f : D → D → Option D) (ma : Mi D) (mb : Mi D) : eOp f ma mb = bnd (ma) (eOp_k1 f mb) := by
  funext r
  first | rfl | (unfold eOp bnd; refine bind_ext fun x s => ?_; first | rfl | (cases x <;> rfl) | (refine bind_ext fun y s => ?_; first | rfl | (cases y <;> rfl) | (refine bind_ext fun z s => ?_; first | rfl | (cases z <;> rfl))))
@[simp] theorem eOp_app (f : D → D → Option D) (ma : Mi D) (mb : Mi D) (r : OEnv) : eOp f ma mb r = (ma r).bind (eOp_k1 f mb) := by rw [eOp_def]; rfl
def eCmp_k2 (f : D → D → Option Bool) (x : D) (y : D) : Mi (D) := fun r => toO ((f x y).map D.bl) r
@[simp] theorem eCmp_k2_app (f : D → D → Option Bool) (x : D) (y : D) (r : OEnv) : eCmp_k2 f x y r = toO ((f x y).map D.bl) r := rfl
def eCmp_k1 (f : D → D → Option Bool) (mb : Mi D) (x : D) : Mi (D) := bnd (mb) (eCmp_k2 f x)
@[simp] theorem eCmp_k1_app (f : D → D → Option Bool) (mb : Mi D) (x : D) (r : OEnv) : eCmp_k1 f mb x r = (mb r).bind (eCmp_k2 f x) := rfl
theorem eCmp_def (f : D → D → Option Bool) (ma : Mi D) (mb : Mi D) : eCmp f ma mb = bnd (ma) (eCmp_k1 f mb) := by
  funext r
  first | rfl | (unfold eCmp bnd; refine bind_ext fun x s => ?_; first | rfl | (cases x <;> rfl) | (refine bind_ext fun y s => ?_; first | rfl | (cases y <;> rfl) | (refine bind_ext fun z s => ?_; first | rfl | (cases z <;> rfl))))
@[simp] theorem eCmp_app (f : D → D → Option Bool) (ma : Mi D) (mb : Mi D) (r : OEnv) : eCmp f ma mb r = (ma r).bind (eCmp_k1 f mb) := by rw [eCmp_def]; rfl
def tCp_k2 (f : D → D → Option Bool) (x : D) (y : D) : Mi (Bool) := fun r => toO (f x y) r
@[simp] theorem tCp_k2_app (f : D → D → Option Bool) (x : D) (y : D) (r : OEnv) : tCp_k2 f x y r = toO (f x y) r := rfl
def tCp_k1 (f : D → D → Option Bool) (mb : Mi D) (x : D) : Mi (Bool) := bnd (mb) (tCp_k2 f x)
@[simp] theorem tCp_k1_app (f : D → D → Option Bool) (mb : Mi D) (x : D) (r : OEnv) : tCp_k1 f mb x r = (mb r).bind (tCp_k2 f x) := rfl
theorem tCp_def (f : D → D → Option Bool) (ma : Mi D) (mb : Mi D) : tCp f ma mb = bnd (ma) (tCp_k1 f mb) := by
  funext r
  first | rfl | (unfold tCp bnd; refine bind_ext fun x s => ?_; first | rfl | (cases x <;> rfl) | (refine bind_ext fun y s => ?_; first | rfl | (cases y <;> rfl) | (refine bind_ext fun z s => ?_; first | rfl | (cases z <;> rfl))))
@[simp] theorem tCp_app (f : D → D → Option Bool) (ma : Mi D) (mb : Mi D) (r : OEnv) : tCp f ma mb r = (ma r).bind (tCp_k1 f mb) := by rw [tCp_def]; rfl
def eChain_k3 (g : D → D → Option Bool) (mc : Mi D) (y : D) (k : Bool) : Mi (D) := fun r => if k = true then bnd mc (fun z => lift ((g y z).map D.bl)) r else .ok (D.bl false) r
@[simp] theorem eChain_k3_app (g : D → D → Option Bool) (mc : Mi D) (y : D) (k : Bool) (r : OEnv) : eChain_k3 g mc y k r = if k = true then bnd mc (fun z => lift ((g y z).map D.bl)) r else .ok (D.bl false) r := rfl
def eChain_k2 (f : D → D → Option Bool) (g : D → D → Option Bool) (mc : Mi D) (x : D) (y : D) : Mi (D) := bnd (lift (f x y)) (eChain_k3 g mc y)
@[simp] theorem eChain_k2_app (f : D → D → Option Bool) (g : D → D → Option Bool) (mc : Mi D) (x : D) (y : D) (r : OEnv) : eChain_k2 f g mc x y r = ((lift (f x y)) r).bind (eChain_k3 g mc y) := rfl
def eChain_k1 (f : D → D → Option Bool) (g : D → D → Option Bool) (mb : Mi D) (mc : Mi D) (x : D) : Mi (D) := bnd (mb) (eChain_k2 f g mc x)
@[simp] theorem eChain_k1_app (f : D → D → Option Bool) (g : D → D → Option Bool) (mb : Mi D) (mc : Mi D) (x : D) (r : OEnv) : eChain_k1 f g mb mc x r = (mb r).bind (eChain_k2 f g mc x) := rfl
theorem eChain_def (f : D → D → Option Bool) (g : D → D → Option Bool) (ma : Mi D) (mb : Mi D) (mc : Mi D) : eChain f g ma mb mc = bnd (ma) (eChain_k1 f g mb mc) := by
  funext r
  first | rfl | (unfold eChain bnd; refine bind_ext fun x s => ?_; first | rfl | (cases x <;> rfl) | (refine bind_ext fun y s => ?_; first | rfl | (cases y <;> rfl) | (refine bind_ext fun z s => ?_; first | rfl | (cases z <;> rfl))))
@[simp] theorem eChain_app (f : D → D → Option Bool) (g : D → D → Option Bool) (ma : Mi D) (mb : Mi D) (mc : Mi D) (r : OEnv) : eChain f g ma mb mc r = (ma r).bind (eChain_k1 f g mb mc) := by rw [eChain_def]; rfl
def tChn_k3 (g : D → D → Option Bool) (mc : Mi D) (y : D) (k : Bool) : Mi (Bool) := fun r => if k = true then bnd mc (fun z => lift (g y z)) r else .ok false r
@[simp] theorem tChn_k3_app (g : D → D → Option Bool) (mc : Mi D) (y : D) (k : Bool) (r : OEnv) : tChn_k3 g mc y k r = if k = true then bnd mc (fun z => lift (g y z)) r else .ok false r := rfl
def tChn_k2 (f : D → D → Option Bool) (g : D → D → Option Bool) (mc : Mi D) (x : D) (y : D) : Mi (Bool) := bnd (lift (f x y)) (tChn_k3 g mc y)
@[simp] theorem tChn_k2_app (f : D → D → Option Bool) (g : D → D → Option Bool) (mc : Mi D) (x : D) (y : D) (r : OEnv) : tChn_k2 f g mc x y r = ((lift (f x y)) r).bind (tChn_k3 g mc y) := rfl
def tChn_k1 (f : D → D → Option Bool) (g : D → D → Option Bool) (mb : Mi D) (mc : Mi D) (x : D) : Mi (Bool) := bnd (mb) (tChn_k2 f g mc x)
@[simp] theorem tChn_k1_app (f : D → D → Option Bool) (g : D → D → Option Bool) (mb : Mi D) (mc : Mi D) (x : D) (r : OEnv) : tChn_k1 f g mb mc x r = (mb r).bind (tChn_k2 f g mc x) := rfl
theorem tChn_def (f : D → D → Option Bool) (g : D → D → Option Bool) (ma : Mi D) (mb : Mi D) (mc : Mi D) : tChn f g ma mb mc = bnd (ma) (tChn_k1 f g mb mc) := by
  funext r
  first | rfl | (unfold tChn bnd; refine bind_ext fun x s => ?_; first | rfl | (cases x <;> rfl) | (refine bind_ext fun y s => ?_; first | rfl | (cases y <;> rfl) | (refine bind_ext fun z s => ?_; first | rfl | (cases z <;> rfl))))
@[simp] theorem tChn_app (f : D → D → Option Bool) (g : D → D → Option Bool) (ma : Mi D) (mb : Mi D) (mc : Mi D) (r : OEnv) : tChn f g ma mb mc r = (ma r).bind (tChn_k1 f g mb mc) := by rw [tChn_def]; rfl
def aCons_k2 (x : D) (xs : List D) : Mi (List D) := fun r => .ok (x :: xs) r
@[simp] theorem aCons_k2_app (x : D) (xs : List D) (r : OEnv) : aCons_k2 x xs r = .ok (x :: xs) r := rfl
def aCons_k1 (ms : Mi (List D)) (x : D) : Mi (List D) := bnd (ms) (aCons_k2 x)
@[simp] theorem aCons_k1_app (ms : Mi (List D)) (x : D) (r : OEnv) : aCons_k1 ms x r = (ms r).bind (aCons_k2 x) := rfl
theorem aCons_def (m : Mi D) (ms : Mi (List D)) : aCons m ms = bnd (m) (aCons_k1 ms) := by
  funext r
  first | rfl | (unfold aCons bnd; refine bind_ext fun x s => ?_; first | rfl | (cases x <;> rfl) | (refine bind_ext fun y s => ?_; first | rfl | (cases y <;> rfl) | (refine bind_ext fun z s => ?_; first | rfl | (cases z <;> rfl))))
@[simp] theorem aCons_app (m : Mi D) (ms : Mi (List D)) (r : OEnv) : aCons m ms r = (m r).bind (aCons_k1 ms) := by rw [aCons_def]; rfl
def eTup_k1  (ds : List D) : Mi (D) := fun r => toO (if ds.length ≤ 16777216 then some (D.tup ds) else none) r
@[simp] theorem eTup_k1_app  (ds : List D) (r : OEnv) : eTup_k1  ds r = toO (if ds.length ≤ 16777216 then some (D.tup ds) else none) r := rfl
theorem eTup_def (m : Mi (List D)) : eTup m = bnd (m) eTup_k1 := by
  funext r
  first | rfl | (unfold eTup bnd; refine bind_ext fun x s => ?_; first | rfl | (cases x <;> rfl) | (refine bind_ext fun y s => ?_; first | rfl | (cases y <;> rfl) | (refine bind_ext fun z s => ?_; first | rfl | (cases z <;> rfl))))
@[simp] theorem eTup_app (m : Mi (List D)) (r : OEnv) : eTup m r = (m r).bind eTup_k1 := by rw [eTup_def]; rfl
def eLst_k1  (ds : List D) : Mi (D) := fun r => toO (if ds.length ≤ 16777216 then some (D.lst ds) else none) r
@[simp] theorem eLst_k1_app  (ds : List D) (r : OEnv) : eLst_k1  ds r = toO (if ds.length ≤ 16777216 then some (D.lst ds) else none) r := rfl
theorem eLst_def (m : Mi (List D)) : eLst m = bnd (m) eLst_k1 := by
  funext r
  first | rfl | (unfold eLst bnd; refine bind_ext fun x s => ?_; first | rfl | (cases x <;> rfl) | (refine bind_ext fun y s => ?_; first | rfl | (cases y <;> rfl) | (refine bind_ext fun z s => ?_; first | rfl | (cases z <;> rfl))))
@[simp] theorem eLst_app (m : Mi (List D)) (r : OEnv) : eLst m r = (m r).bind eLst_k1 := by rw [eLst_def]; rfl
def eIx_k2 (x : D) (y : D) : Mi (D) := fun r => toO (ixD x y) r
@[simp] theorem eIx_k2_app (x : D) (y : D) (r : OEnv) : eIx_k2 x y r = toO (ixD x y) r := rfl
def eIx_k1 (mb : Mi D) (x : D) : Mi (D) := bnd (mb) (eIx_k2 x)
@[simp] theorem eIx_k1_app (mb : Mi D) (x : D) (r : OEnv) : eIx_k1 mb x r = (mb r).bind (eIx_k2 x) := rfl
theorem eIx_def (ma : Mi D) (mb : Mi D) : eIx ma mb = bnd (ma) (eIx_k1 mb) := by
  funext r
  first | rfl | (unfold eIx bnd; refine bind_ext fun x s => ?_; first | rfl | (cases x <;> rfl) | (refine bind_ext fun y s => ?_; first | rfl | (cases y <;> rfl) | (refine bind_ext fun z s => ?_; first | rfl | (cases z <;> rfl))))
@[simp] theorem eIx_app (ma : Mi D) (mb : Mi D) (r : OEnv) : eIx ma mb r = (ma r).bind (eIx_k1 mb) := by rw [eIx_def]; rfl
def oSome_k1  (x : D) : Mi (Option Int) := fun r => toO ((asI x).map some) r
@[simp] theorem oSome_k1_app  (x : D) (r : OEnv) : oSome_k1  x r = toO ((asI x).map some) r := rfl
theorem oSome_def (m : Mi D) : oSome m = bnd (m) oSome_k1 := by
  funext r
  first | rfl | (unfold oSome bnd; refine bind_ext fun x s => ?_; first | rfl | (cases x <;> rfl) | (refine bind_ext fun y s => ?_; first | rfl | (cases y <;> rfl) | (refine bind_ext fun z s => ?_; first | rfl | (cases z <;> rfl))))
@[simp] theorem oSome_app (m : Mi D) (r : OEnv) : oSome m r = (m r).bind oSome_k1 := by rw [oSome_def]; rfl
def eSl_k3 (f : D → Option Int → Option Int → Option D) (x : D) (lo : Option Int) (hi : Option Int) : Mi (D) := fun r => toO (f x lo hi) r
@[simp] theorem eSl_k3_app (f : D → Option Int → Option Int → Option D) (x : D) (lo : Option Int) (hi : Option Int) (r : OEnv) : eSl_k3 f x lo hi r = toO (f x lo hi) r := rfl
def eSl_k2 (f : D → Option Int → Option Int → Option D) (mh : Mi (Option Int)) (x : D) (lo : Option Int) : Mi (D) := bnd (mh) (eSl_k3 f x lo)
@[simp] theorem eSl_k2_app (f : D → Option Int → Option Int → Option D) (mh : Mi (Option Int)) (x : D) (lo : Option Int) (r : OEnv) : eSl_k2 f mh x lo r = (mh r).bind (eSl_k3 f x lo) := rfl
def eSl_k1 (f : D → Option Int → Option Int → Option D) (ml : Mi (Option Int)) (mh : Mi (Option Int)) (x : D) : Mi (D) := bnd (ml) (eSl_k2 f mh x)
@[simp] theorem eSl_k1_app (f : D → Option Int → Option Int → Option D) (ml : Mi (Option Int)) (mh : Mi (Option Int)) (x : D) (r : OEnv) : eSl_k1 f ml mh x r = (ml r).bind (eSl_k2 f mh x) := rfl
theorem eSl_def (f : D → Option Int → Option Int → Option D) (ma : Mi D) (ml : Mi (Option Int)) (mh : Mi (Option Int)) : eSl f ma ml mh = bnd (ma) (eSl_k1 f ml mh) := by
  funext r
  first | rfl | (unfold eSl bnd; refine bind_ext fun x s => ?_; first | rfl | (cases x <;> rfl) | (refine bind_ext fun y s => ?_; first | rfl | (cases y <;> rfl) | (refine bind_ext fun z s => ?_; first | rfl | (cases z <;> rfl))))
@[simp] theorem eSl_app (f : D → Option Int → Option Int → Option D) (ma : Mi D) (ml : Mi (Option Int)) (mh : Mi (Option Int)) (r : OEnv) : eSl f ma ml mh r = (ma r).bind (eSl_k1 f ml mh) := by rw [eSl_def]; rfl
def tVal_k1  (x : D) : Mi (Bool) := fun r => toO (asB x) r
@[simp] theorem tVal_k1_app  (x : D) (r : OEnv) : tVal_k1  x r = toO (asB x) r := rfl
theorem tVal_def (m : Mi D) : tVal m = bnd (m) tVal_k1 := by
  funext r
  first | rfl | (unfold tVal bnd; refine bind_ext fun x s => ?_; first | rfl | (cases x <;> rfl) | (refine bind_ext fun y s => ?_; first | rfl | (cases y <;> rfl) | (refine bind_ext fun z s => ?_; first | rfl | (cases z <;> rfl))))
@[simp] theorem tVal_app (m : Mi D) (r : OEnv) : tVal m r = (m r).bind tVal_k1 := by rw [tVal_def]; rfl
def tNotM_k1  (k : Bool) : Mi (Bool) := fun r => .ok (!k) r
@[simp] theorem tNotM_k1_app  (k : Bool) (r : OEnv) : tNotM_k1  k r = .ok (!k) r := rfl
theorem tNotM_def (m : Mi Bool) : tNotM m = bnd (m) tNotM_k1 := by
  funext r
  first | rfl | (unfold tNotM bnd; refine bind_ext fun x s => ?_; first | rfl | (cases x <;> rfl) | (refine bind_ext fun y s => ?_; first | rfl | (cases y <;> rfl) | (refine bind_ext fun z s => ?_; first | rfl | (cases z <;> rfl))))
@[simp] theorem tNotM_app (m : Mi Bool) (r : OEnv) : tNotM m r = (m r).bind tNotM_k1 := by rw [tNotM_def]; rfl
def tAndM_k1 (n : Mi Bool) (k : Bool) : Mi (Bool) := fun r => if k = true then n r else .ok false r
@[simp] theorem tAndM_k1_app (n : Mi Bool) (k : Bool) (r : OEnv) : tAndM_k1 n k r = if k = true then n r else .ok false r := rfl
theorem tAndM_def (m : Mi Bool) (n : Mi Bool) : tAndM m n = bnd (m) (tAndM_k1 n) := by
  funext r
  first | rfl | (unfold tAndM bnd; refine bind_ext fun x s => ?_; first | rfl | (cases x <;> rfl) | (refine bind_ext fun y s => ?_; first | rfl | (cases y <;> rfl) | (refine bind_ext fun z s => ?_; first | rfl | (cases z <;> rfl))))
@[simp] theorem tAndM_app (m : Mi Bool) (n : Mi Bool) (r : OEnv) : tAndM m n r = (m r).bind (tAndM_k1 n) := by rw [tAndM_def]; rfl
def tOrM_k1 (n : Mi Bool) (k : Bool) : Mi (Bool) := fun r => if k = true then .ok true r else n r
@[simp] theorem tOrM_k1_app (n : Mi Bool) (k : Bool) (r : OEnv) : tOrM_k1 n k r = if k = true then .ok true r else n r := rfl
theorem tOrM_def (m : Mi Bool) (n : Mi Bool) : tOrM m n = bnd (m) (tOrM_k1 n) := by
  funext r
  first | rfl | (unfold tOrM bnd; refine bind_ext fun x s => ?_; first | rfl | (cases x <;> rfl) | (refine bind_ext fun y s => ?_; first | rfl | (cases y <;> rfl) | (refine bind_ext fun z s => ?_; first | rfl | (cases z <;> rfl))))
@[simp] theorem tOrM_app (m : Mi Bool) (n : Mi Bool) (r : OEnv) : tOrM m n r = (m r).bind (tOrM_k1 n) := by rw [tOrM_def]; rfl
def eAnd_k2 (n : Mi D) (k : Bool) : Mi (D) := fun r => if k = true then n r else .ok (.bl false) r
@[simp] theorem eAnd_k2_app (n : Mi D) (k : Bool) (r : OEnv) : eAnd_k2 n k r = if k = true then n r else .ok (.bl false) r := rfl
def eAnd_k1 (n : Mi D) (x : D) : Mi (D) := bnd (lift (asB x)) (eAnd_k2 n)
@[simp] theorem eAnd_k1_app (n : Mi D) (x : D) (r : OEnv) : eAnd_k1 n x r = ((lift (asB x)) r).bind (eAnd_k2 n) := rfl
theorem eAnd_def (m : Mi D) (n : Mi D) : eAnd m n = bnd (m) (eAnd_k1 n) := by
  funext r
  first | rfl | (unfold eAnd bnd; refine bind_ext fun x s => ?_; first | rfl | (cases x <;> rfl) | (refine bind_ext fun y s => ?_; first | rfl | (cases y <;> rfl) | (refine bind_ext fun z s => ?_; first | rfl | (cases z <;> rfl))))
@[simp] theorem eAnd_app (m : Mi D) (n : Mi D) (r : OEnv) : eAnd m n r = (m r).bind (eAnd_k1 n) := by rw [eAnd_def]; rfl
def eOr_k2 (n : Mi D) (k : Bool) : Mi (D) := fun r => if k = true then .ok (.bl true) r else n r
@[simp] theorem eOr_k2_app (n : Mi D) (k : Bool) (r : OEnv) : eOr_k2 n k r = if k = true then .ok (.bl true) r else n r := rfl
def eOr_k1 (n : Mi D) (x : D) : Mi (D) := bnd (lift (asB x)) (eOr_k2 n)
@[simp] theorem eOr_k1_app (n : Mi D) (x : D) (r : OEnv) : eOr_k1 n x r = ((lift (asB x)) r).bind (eOr_k2 n) := rfl
theorem eOr_def (m : Mi D) (n : Mi D) : eOr m n = bnd (m) (eOr_k1 n) := by
  funext r
  first | rfl | (unfold eOr bnd; refine bind_ext fun x s => ?_; first | rfl | (cases x <;> rfl) | (refine bind_ext fun y s => ?_; first | rfl | (cases y <;> rfl) | (refine bind_ext fun z s => ?_; first | rfl | (cases z <;> rfl))))
@[simp] theorem eOr_app (m : Mi D) (n : Mi D) (r : OEnv) : eOr m n r = (m r).bind (eOr_k1 n) := by rw [eOr_def]; rfl
def eNot_k2  (k : Bool) : Mi (D) := fun r => .ok (.bl (!k)) r
@[simp] theorem eNot_k2_app  (k : Bool) (r : OEnv) : eNot_k2  k r = .ok (.bl (!k)) r := rfl
def eNot_k1  (x : D) : Mi (D) := bnd (lift (asB x)) eNot_k2
@[simp] theorem eNot_k1_app  (x : D) (r : OEnv) : eNot_k1  x r = ((lift (asB x)) r).bind eNot_k2 := rfl
theorem eNot_def (m : Mi D) : eNot m = bnd (m) eNot_k1 := by
  funext r
  first | rfl | (unfold eNot bnd; refine bind_ext fun x s => ?_; first | rfl | (cases x <;> rfl) | (refine bind_ext fun y s => ?_; first | rfl | (cases y <;> rfl) | (refine bind_ext fun z s => ?_; first | rfl | (cases z <;> rfl))))
@[simp] theorem eNot_app (m : Mi D) (r : OEnv) : eNot m r = (m r).bind eNot_k1 := by rw [eNot_def]; rfl
def eIf_k1 (m : Mi D) (n : Mi D) (k : Bool) : Mi (D) := fun r => if k = true then m r else n r
@[simp] theorem eIf_k1_app (m : Mi D) (n : Mi D) (k : Bool) (r : OEnv) : eIf_k1 m n k r = if k = true then m r else n r := rfl
theorem eIf_def (c : Mi Bool) (m : Mi D) (n : Mi D) : eIf c m n = bnd (c) (eIf_k1 m n) := by
  funext r
  first | rfl | (unfold eIf bnd; refine bind_ext fun x s => ?_; first | rfl | (cases x <;> rfl) | (refine bind_ext fun y s => ?_; first | rfl | (cases y <;> rfl) | (refine bind_ext fun z s => ?_; first | rfl | (cases z <;> rfl))))
@[simp] theorem eIf_app (c : Mi Bool) (m : Mi D) (n : Mi D) (r : OEnv) : eIf c m n r = (c r).bind (eIf_k1 m n) := by rw [eIf_def]; rfl
def eUn_k1 (f : D → Option D) (x : D) : Mi (D) := fun r => toO (f x) r
@[simp] theorem eUn_k1_app (f : D → Option D) (x : D) (r : OEnv) : eUn_k1 f x r = toO (f x) r := rfl
theorem eUn_def (f : D → Option D) (m : Mi D) : eUn f m = bnd (m) (eUn_k1 f) := by
  funext r
  first | rfl | (unfold eUn bnd; refine bind_ext fun x s => ?_; first | rfl | (cases x <;> rfl) | (refine bind_ext fun y s => ?_; first | rfl | (cases y <;> rfl) | (refine bind_ext fun z s => ?_; first | rfl | (cases z <;> rfl))))
@[simp] theorem eUn_app (f : D → Option D) (m : Mi D) (r : OEnv) : eUn f m r = (m r).bind (eUn_k1 f) := by rw [eUn_def]; rfl
def eB_k1 (f : List D → Option V) (es : List D) : Mi (D) := fun r => toO ((f es).map D.v) r
@[simp] theorem eB_k1_app (f : List D → Option V) (es : List D) (r : OEnv) : eB_k1 f es r = toO ((f es).map D.v) r := rfl
theorem eB_def (f : List D → Option V) (m : Mi (List D)) : eB f m = bnd (m) (eB_k1 f) := by
  funext r
  first | rfl | (unfold eB bnd; refine bind_ext fun x s => ?_; first | rfl | (cases x <;> rfl) | (refine bind_ext fun y s => ?_; first | rfl | (cases y <;> rfl) | (refine bind_ext fun z s => ?_; first | rfl | (cases z <;> rfl))))
@[simp] theorem eB_app (f : List D → Option V) (m : Mi (List D)) (r : OEnv) : eB f m r = (m r).bind (eB_k1 f) := by rw [eB_def]; rfl
def eCall_k2 (m : Mf) (π : List Nat) (xs : List D) (ys : List D) : Mi (D) := fun r => (m (perm .non π (xs ++ ys))).at_ r
@[simp] theorem eCall_k2_app (m : Mf) (π : List Nat) (xs : List D) (ys : List D) (r : OEnv) : eCall_k2 m π xs ys r = (m (perm .non π (xs ++ ys))).at_ r := rfl
def eCall_k1 (m : Mf) (π : List Nat) (mk : Mi (List D)) (xs : List D) : Mi (D) := bnd (mk) (eCall_k2 m π xs)
@[simp] theorem eCall_k1_app (m : Mf) (π : List Nat) (mk : Mi (List D)) (xs : List D) (r : OEnv) : eCall_k1 m π mk xs r = (mk r).bind (eCall_k2 m π xs) := rfl
theorem eCall_def (m : Mf) (π : List Nat) (ma : Mi (List D)) (mk : Mi (List D)) : eCall m π ma mk = bnd (ma) (eCall_k1 m π mk) := by
  funext r
  first | rfl | (unfold eCall bnd; refine bind_ext fun x s => ?_; first | rfl | (cases x <;> rfl) | (refine bind_ext fun y s => ?_; first | rfl | (cases y <;> rfl) | (refine bind_ext fun z s => ?_; first | rfl | (cases z <;> rfl))))
@[simp] theorem eCall_app (m : Mf) (π : List Nat) (ma : Mi (List D)) (mk : Mi (List D)) (r : OEnv) : eCall m π ma mk r = (ma r).bind (eCall_k1 m π mk) := by rw [eCall_def]; rfl
def gVal_k2 (x : D) (xs : List Ag) : Mi (List Ag) := fun r => .ok (.inl x :: xs) r
@[simp] theorem gVal_k2_app (x : D) (xs : List Ag) (r : OEnv) : gVal_k2 x xs r = .ok (.inl x :: xs) r := rfl
def gVal_k1 (ms : Mi (List Ag)) (x : D) : Mi (List Ag) := bnd (ms) (gVal_k2 x)
@[simp] theorem gVal_k1_app (ms : Mi (List Ag)) (x : D) (r : OEnv) : gVal_k1 ms x r = (ms r).bind (gVal_k2 x) := rfl
theorem gVal_def (m : Mi D) (ms : Mi (List Ag)) : gVal m ms = bnd (m) (gVal_k1 ms) := by
  funext r
  first | rfl | (unfold gVal bnd; refine bind_ext fun x s => ?_; first | rfl | (cases x <;> rfl) | (refine bind_ext fun y s => ?_; first | rfl | (cases y <;> rfl) | (refine bind_ext fun z s => ?_; first | rfl | (cases z <;> rfl))))
@[simp] theorem gVal_app (m : Mi D) (ms : Mi (List Ag)) (r : OEnv) : gVal m ms r = (m r).bind (gVal_k1 ms) := by rw [gVal_def]; rfl
def eCallG_k1 (m : Mf) (xs : List Ag) : Mi (D) := fun r => callOut m xs r
@[simp] theorem eCallG_k1_app (m : Mf) (xs : List Ag) (r : OEnv) : eCallG_k1 m xs r = callOut m xs r := rfl
theorem eCallG_def (m : Mf) (ms : Mi (List Ag)) : eCallG m ms = bnd (ms) (eCallG_k1 m) := by
  funext r
  first | rfl | (unfold eCallG bnd; refine bind_ext fun x s => ?_; first | rfl | (cases x <;> rfl) | (refine bind_ext fun y s => ?_; first | rfl | (cases y <;> rfl) | (refine bind_ext fun z s => ?_; first | rfl | (cases z <;> rfl))))
@[simp] theorem eCallG_app (m : Mf) (ms : Mi (List Ag)) (r : OEnv) : eCallG m ms r = (ms r).bind (eCallG_k1 m) := by rw [eCallG_def]; rfl
def sSet_k1 (i : Nat) (d : D) : Mi (Ctl) := fun r => setI i d r
@[simp] theorem sSet_k1_app (i : Nat) (d : D) (r : OEnv) : sSet_k1 i d r = setI i d r := rfl
theorem sSet_def (i : Nat) (m : Mi D) : sSet i m = bnd (m) (sSet_k1 i) := by
  funext r
  first | rfl | (unfold sSet bnd; refine bind_ext fun x s => ?_; first | rfl | (cases x <;> rfl) | (refine bind_ext fun y s => ?_; first | rfl | (cases y <;> rfl) | (refine bind_ext fun z s => ?_; first | rfl | (cases z <;> rfl))))
@[simp] theorem sSet_app (i : Nat) (m : Mi D) (r : OEnv) : sSet i m r = (m r).bind (sSet_k1 i) := by rw [sSet_def]; rfl
def sRet_k1  (d : D) : Mi (Ctl) := fun r => .ok (.rt d) r
@[simp] theorem sRet_k1_app  (d : D) (r : OEnv) : sRet_k1  d r = .ok (.rt d) r := rfl
theorem sRet_def (m : Mi D) : sRet m = bnd (m) sRet_k1 := by
  funext r
  first | rfl | (unfold sRet bnd; refine bind_ext fun x s => ?_; first | rfl | (cases x <;> rfl) | (refine bind_ext fun y s => ?_; first | rfl | (cases y <;> rfl) | (refine bind_ext fun z s => ?_; first | rfl | (cases z <;> rfl))))
@[simp] theorem sRet_app (m : Mi D) (r : OEnv) : sRet m r = (m r).bind sRet_k1 := by rw [sRet_def]; rfl
def sExp_k1  (d : D) : Mi (Ctl) := fun r => .ok .nx r
@[simp] theorem sExp_k1_app  (d : D) (r : OEnv) : sExp_k1  d r = .ok .nx r := rfl
theorem sExp_def (m : Mi D) : sExp m = bnd (m) sExp_k1 := by
  funext r
  first | rfl | (unfold sExp bnd; refine bind_ext fun x s => ?_; first | rfl | (cases x <;> rfl) | (refine bind_ext fun y s => ?_; first | rfl | (cases y <;> rfl) | (refine bind_ext fun z s => ?_; first | rfl | (cases z <;> rfl))))
@[simp] theorem sExp_app (m : Mi D) (r : OEnv) : sExp m r = (m r).bind sExp_k1 := by rw [sExp_def]; rfl
def sIf_k1 (m : Ms) (n : Ms) (k : Bool) : Mi (Ctl) := fun r => if k = true then m r else n r
@[simp] theorem sIf_k1_app (m : Ms) (n : Ms) (k : Bool) (r : OEnv) : sIf_k1 m n k r = if k = true then m r else n r := rfl
theorem sIf_def (c : Mi Bool) (m : Ms) (n : Ms) : sIf c m n = bnd (c) (sIf_k1 m n) := by
  funext r
  first | rfl | (unfold sIf bnd; refine bind_ext fun x s => ?_; first | rfl | (cases x <;> rfl) | (refine bind_ext fun y s => ?_; first | rfl | (cases y <;> rfl) | (refine bind_ext fun z s => ?_; first | rfl | (cases z <;> rfl))))
@[simp] theorem sIf_app (c : Mi Bool) (m : Ms) (n : Ms) (r : OEnv) : sIf c m n r = (c r).bind (sIf_k1 m n) := by rw [sIf_def]; rfl
def sAsg_k1 (mt : Mt) (d : D) : Mi (Ctl) := fun r => toN (mt d r)
@[simp] theorem sAsg_k1_app (mt : Mt) (d : D) (r : OEnv) : sAsg_k1 mt d r = toN (mt d r) := rfl
theorem sAsg_def (m : Mi D) (mt : Mt) : sAsg m mt = bnd (m) (sAsg_k1 mt) := by
  funext r
  first | rfl | (unfold sAsg bnd; refine bind_ext fun x s => ?_; first | rfl | (cases x <;> rfl) | (refine bind_ext fun y s => ?_; first | rfl | (cases y <;> rfl) | (refine bind_ext fun z s => ?_; first | rfl | (cases z <;> rfl))))
@[simp] theorem sAsg_app (m : Mi D) (mt : Mt) (r : OEnv) : sAsg m mt r = (m r).bind (sAsg_k1 mt) := by rw [sAsg_def]; rfl
def sPar_k1 (is : List Nat) (ds : List D) : Mi (Ctl) := fun r => toN (setAll is ds r)
@[simp] theorem sPar_k1_app (is : List Nat) (ds : List D) (r : OEnv) : sPar_k1 is ds r = toN (setAll is ds r) := rfl
theorem sPar_def (is : List Nat) (m : Mi (List D)) : sPar is m = bnd (m) (sPar_k1 is) := by
  funext r
  first | rfl | (unfold sPar bnd; refine bind_ext fun x s => ?_; first | rfl | (cases x <;> rfl) | (refine bind_ext fun y s => ?_; first | rfl | (cases y <;> rfl) | (refine bind_ext fun z s => ?_; first | rfl | (cases z <;> rfl))))
@[simp] theorem sPar_app (is : List Nat) (m : Mi (List D)) (r : OEnv) : sPar is m r = (m r).bind (sPar_k1 is) := by rw [sPar_def]; rfl
def sAug_k3 (i : Nat) (z : D) : Mi (Ctl) := fun r => setI i z r
@[simp] theorem sAug_k3_app (i : Nat) (z : D) (r : OEnv) : sAug_k3 i z r = setI i z r := rfl
def sAug_k2 (i : Nat) (f : D → D → Option D) (x : D) (y : D) : Mi (Ctl) := bnd (lift (f x y)) (sAug_k3 i)
@[simp] theorem sAug_k2_app (i : Nat) (f : D → D → Option D) (x : D) (y : D) (r : OEnv) : sAug_k2 i f x y r = ((lift (f x y)) r).bind (sAug_k3 i) := rfl
def sAug_k1 (i : Nat) (f : D → D → Option D) (m : Mi D) (x : D) : Mi (Ctl) := bnd (m) (sAug_k2 i f x)
@[simp] theorem sAug_k1_app (i : Nat) (f : D → D → Option D) (m : Mi D) (x : D) (r : OEnv) : sAug_k1 i f m x r = (m r).bind (sAug_k2 i f x) := rfl
theorem sAug_def (i : Nat) (f : D → D → Option D) (m : Mi D) : sAug i f m = bnd (eVar i) (sAug_k1 i f m) := by
  funext r
  first | rfl | (unfold sAug bnd; refine bind_ext fun x s => ?_; first | rfl | (cases x <;> rfl) | (refine bind_ext fun y s => ?_; first | rfl | (cases y <;> rfl) | (refine bind_ext fun z s => ?_; first | rfl | (cases z <;> rfl))))
@[simp] theorem sAug_app (i : Nat) (f : D → D → Option D) (m : Mi D) (r : OEnv) : sAug i f m r = ((eVar i) r).bind (sAug_k1 i f m) := by rw [sAug_def]; rfl
def iVal_k1  (x : D) : Mi (List D) := fun r => toO (itemsOf x) r
@[simp] theorem iVal_k1_app  (x : D) (r : OEnv) : iVal_k1  x r = toO (itemsOf x) r := rfl
theorem iVal_def (m : Mi D) : iVal m = bnd (m) iVal_k1 := by
  funext r
  first | rfl | (unfold iVal bnd; refine bind_ext fun x s => ?_; first | rfl | (cases x <;> rfl) | (refine bind_ext fun y s => ?_; first | rfl | (cases y <;> rfl) | (refine bind_ext fun z s => ?_; first | rfl | (cases z <;> rfl))))
@[simp] theorem iVal_app (m : Mi D) (r : OEnv) : iVal m r = (m r).bind iVal_k1 := by rw [iVal_def]; rfl
def iRng_k1  (xs : List D) : Mi (List D) := fun r => toO (rngOf xs) r
@[simp] theorem iRng_k1_app  (xs : List D) (r : OEnv) : iRng_k1  xs r = toO (rngOf xs) r := rfl
theorem iRng_def (m : Mi (List D)) : iRng m = bnd (m) iRng_k1 := by
  funext r
  first | rfl | (unfold iRng bnd; refine bind_ext fun x s => ?_; first | rfl | (cases x <;> rfl) | (refine bind_ext fun y s => ?_; first | rfl | (cases y <;> rfl) | (refine bind_ext fun z s => ?_; first | rfl | (cases z <;> rfl))))
@[simp] theorem iRng_app (m : Mi (List D)) (r : OEnv) : iRng m r = (m r).bind iRng_k1 := by rw [iRng_def]; rfl
def sFor_k1 (mt : Mt) (b : Ms) (ds : List D) : Mi (Ctl) := fun r => forL mt b ds r
@[simp] theorem sFor_k1_app (mt : Mt) (b : Ms) (ds : List D) (r : OEnv) : sFor_k1 mt b ds r = forL mt b ds r := rfl
theorem sFor_def (mi : Mi (List D)) (mt : Mt) (b : Ms) : sFor mi mt b = bnd (mi) (sFor_k1 mt b) := by
  funext r
  first | rfl | (unfold sFor bnd; refine bind_ext fun x s => ?_; first | rfl | (cases x <;> rfl) | (refine bind_ext fun y s => ?_; first | rfl | (cases y <;> rfl) | (refine bind_ext fun z s => ?_; first | rfl | (cases z <;> rfl))))
@[simp] theorem sFor_app (mi : Mi (List D)) (mt : Mt) (b : Ms) (r : OEnv) : sFor mi mt b r = (mi r).bind (sFor_k1 mt b) := by rw [sFor_def]; rfl
def eLc_k1 (own : List Nat) (mt : Mt) (mc : Mi Bool) (me : Mi D) (ds : List D) : Mi (D) := fun r => if ds.length ≤ 16777216 then lcL own r mt mc me [] ds (wipeE own r) else .bad
@[simp] theorem eLc_k1_app (own : List Nat) (mt : Mt) (mc : Mi Bool) (me : Mi D) (ds : List D) (r : OEnv) : eLc_k1 own mt mc me ds r = if ds.length ≤ 16777216 then lcL own r mt mc me [] ds (wipeE own r) else .bad := rfl
theorem eLc_def (own : List Nat) (mi : Mi (List D)) (mt : Mt) (mc : Mi Bool) (me : Mi D) : eLc own mi mt mc me = bnd (mi) (eLc_k1 own mt mc me) := by
  funext r
  first | rfl | (unfold eLc bnd; refine bind_ext fun x s => ?_; first | rfl | (cases x <;> rfl) | (refine bind_ext fun y s => ?_; first | rfl | (cases y <;> rfl) | (refine bind_ext fun z s => ?_; first | rfl | (cases z <;> rfl))))
@[simp] theorem eLc_app (own : List Nat) (mi : Mi (List D)) (mt : Mt) (mc : Mi Bool) (me : Mi D) (r : OEnv) : eLc own mi mt mc me r = (mi r).bind (eLc_k1 own mt mc me) := by rw [eLc_def]; rfl
section
variable (ρ : OEnv)
@[simp] theorem gNil_app : DM.gNil ρ = .ok [] ρ := rfl
def isSet (o : Option (Option D)) : Bool := match o with
  | some (some _) => true
  | _ => false
@[simp] theorem isSet_some (d : D) : isSet (some (some d)) = true := rfl
@[simp] theorem gOwn_app (i : Nat) (ms : Mi (List Ag)) : gOwn i ms ρ = if isSet ρ[i]? then (ms ρ).bind fun xs ρ2 => .ok (.inr i :: xs) ρ2 else .bad := by
  unfold gOwn isSet
  split
  · rename_i d e
    simp [e]; rfl
  · rename_i e
    cases q : ρ[i]? with
    | none => simp
    | some y => cases y with
      | none => simp
      | some d => exact absurd q (e d)
@[simp] theorem callOut_app (m : Mf) (xs : List Ag) : callOut m xs ρ = (toO (fetch xs ρ) ρ).bind fun r _ => (m r.1).back xs r.2 := by
  unfold callOut
  cases fetch xs ρ <;> rfl
@[simp] theorem mfOf_app (n : Nat) (sh : List Sh) (sr : Sh) (m : Ms) (ds : List D) : mfOf n sh sr m ds = (m (ds.map some ++ List.replicate (n - ds.length) none)).fo sh sr ds := rfl
@[simp] theorem sNil_app : sNil ρ = .ok .nx ρ := rfl
@[simp] theorem sSeq_app (m n : Ms) : sSeq m n ρ = (m ρ).seq n := rfl
@[simp] theorem setI_app (i : Nat) (d : D) : setI i d ρ = if i < ρ.length then .ok .nx (ρ.set i (some d)) else .bad := rfl
@[simp] theorem sRetN_app : sRetN ρ = .ok (.rt .non) ρ := rfl
@[simp] theorem gNm_app (i : Nat) (d : D) : gNm i d ρ = if i < ρ.length then some (ρ.set i (some d)) else none := rfl
def getI (o : Out D) : Option (Int × OEnv) := match o with
  | .ok (.v (.int k)) ρ1 => some (k, ρ1)
  | _ => none
@[simp] theorem getI_ok (k : Int) : getI (.ok (.v (.int k)) ρ) = some (k, ρ) := rfl
def getL (o : Option (Option D)) : Option (List D) := match o with
  | some (some (.lst ds)) => some ds
  | _ => none
@[simp] theorem getL_some (ds : List D) : getL (some (some (.lst ds))) = some ds := rfl
@[simp] theorem gSet_app (i : Nat) (mi : Mi D) (d : D) : gSet i mi d ρ = if isSet ρ[i]? then (getI (mi ρ)).bind fun r => (getL r.2[i]?).bind fun ds => (ixN ds.length r.1).map fun j => r.2.set i (some (.lst (ds.set j d))) else none := by
  unfold gSet isSet
  split
  · rename_i d0 e
    simp only [e]
    unfold getI getL
    split
    · split <;> simp_all
    · simp_all
  · rename_i e
    cases q : ρ[i]? with
    | none => simp
    | some y => cases y with
      | none => simp
      | some d => exact absurd q (e d)
@[simp] theorem gsNil_app : gsNil [] ρ = some ρ := rfl
@[simp] theorem gsCons_app (m : Mt) (ms : Mts) (d : D) (ds : List D) : gsCons m ms (d :: ds) ρ = (m d ρ).bind fun ρ1 => ms ds ρ1 := rfl
@[simp] theorem gTupM_app (n : Nat) (ms : Mts) (ds : List D) : gTupM n ms (.tup ds) ρ = if ds.length = n then ms ds ρ else none := rfl
@[simp] theorem gTupM_appL (n : Nat) (ms : Mts) (ds : List D) : gTupM n ms (.lst ds) ρ = if ds.length = n then ms ds ρ else none := rfl
@[simp] theorem setAll_nil : setAll [] [] ρ = some ρ := rfl
@[simp] theorem setAll_cons (i : Nat) (is : List Nat) (d : D) (ds : List D) : setAll (i :: is) (d :: ds) ρ = if i < ρ.length then setAll is ds (ρ.set i (some d)) else none := rfl
def turnK (mt : Mt) (body : Ms) (ds : List D) : Ms := fun ρ1 => (body ρ1).turn (forL mt body ds)
@[simp] theorem turnK_app (mt : Mt) (body : Ms) (ds : List D) : turnK mt body ds ρ = (body ρ).turn (forL mt body ds) := rfl
theorem lcL_in {own : List Nat} {ρ0 ρ ρ1 ρ2 ρ3 : OEnv} {mt : Mt} {mc : Mi Bool} {me : Mi D} {acc : List D} {d x : D} {ds : List D} (h1 : mt d ρ = some ρ1) (h2 : mc ρ1 = .ok true ρ2) (h3 : me ρ2 = .ok x ρ3) :
    lcL own ρ0 mt mc me acc (d :: ds) ρ = lcL own ρ0 mt mc me (acc ++ [x]) ds (wipeE own ρ3) := by
  simp only [lcL, h1, h2, h3]
theorem lcL_out {own : List Nat} {ρ0 ρ ρ1 ρ2 : OEnv} {mt : Mt} {mc : Mi Bool} {me : Mi D} {acc : List D} {d : D} {ds : List D} (h1 : mt d ρ = some ρ1) (h2 : mc ρ1 = .ok false ρ2) :
    lcL own ρ0 mt mc me acc (d :: ds) ρ = lcL own ρ0 mt mc me acc ds (wipeE own ρ2) := by
  simp only [lcL, h1, h2]
end
/-! ### operations -/
theorem small_of {i : Int} (h1 : -(2 ^ 1000) ≤ i) (h2 : i ≤ 2 ^ 1000) : small i = true := by
  unfold small
  refine decide_eq_true ?_
  have : i.natAbs < 2 ^ 1001 := by
    have e : (2 : Int) ^ 1000 + 2 ^ 1000 = 2 ^ 1001 := by decide +kernel
    have e2 : ((2 ^ 1001 : Nat) : Int) = 2 ^ 1001 := by decide +kernel
    omega
  by_cases h0 : i.natAbs = 0
  · rw [h0]; decide +kernel
  · have := (Nat.log2_lt h0).mpr this
    omega
theorem small_b {i : Int} (h1 : -(10 ^ 60) ≤ i) (h2 : i ≤ 10 ^ 60) : small i = true := by
  have e : (10 : Int) ^ 60 ≤ 2 ^ 1000 := by decide +kernel
  exact small_of (by omega) (by omega)
@[simp] theorem opAdd_ii (i j : Int) : opAdd (.v (.int i)) (.v (.int j)) = some (.int (i + j)) := rfl
@[simp] theorem opSub_ii (i j : Int) : opSub (.v (.int i)) (.v (.int j)) = some (.int (i - j)) := rfl
theorem opMul_ii {i j : Int} (h1 : small i = true) (h2 : small j = true) : opMul (.v (.int i)) (.v (.int j)) = some (.int (i * j)) := by
  show (if (small i && small j) = true then some (D.int (i * j)) else none) = _
  rw [h1, h2]; rfl
theorem opMod_ii {i j : Int} (h : 0 < j) : opMod (.v (.int i)) (.v (.int j)) = some (.int (i % j)) := if_pos h
theorem opFdiv_ii {i j : Int} (h : 0 < j) (h2 : j.natAbs.log2 < 9000) : opFdiv (.v (.int i)) (.v (.int j)) = some (.int (i / j)) := if_pos ⟨h, h2⟩
theorem opPow_ii {i j : Int} (h : 0 ≤ j) (h2 : j ≤ 1000) (h3 : i.natAbs < 2 ^ 64) : opPow (.v (.int i)) (.v (.int j)) = some (.int (i ^ j.toNat)) := if_pos ⟨h, h2, h3⟩
@[simp] theorem opI2_ii (f : Int → Int → Bool) (i j : Int) : opI2 f (.v (.int i)) (.v (.int j)) = some (f i j) := rfl
@[simp] theorem opNeg_i (i : Int) : opNeg (.v (.int i)) = some (.int (-i)) := rfl
@[simp] theorem asB_b (b : Bool) : asB (.v (.bl b)) = some b := rfl
@[simp] theorem asI_i (b : Int) : asI (.v (.int b)) = some b := rfl
@[simp] theorem asS_s (b : Str) : asS (.v (.str b)) = some b := rfl
theorem log2_63 {n : Nat} (h : n ≤ 63) : ((n : Int)).natAbs.log2 < 9000 := by
  have : ((n : Int)).natAbs = n := by simp
  rw [this]
  have := Nat.log2_le_self n
  omega
theorem atI_mod {α : Type} {xs : List α} {k : Int} (h : 0 < xs.length) : ∃ x, atI xs (k % (xs.length : Int)) = some x := by
  have h1 := Int.emod_nonneg k (b := (xs.length : Int)) (by omega)
  have h2 := Int.emod_lt_of_pos k (b := (xs.length : Int)) (by omega)
  have e : ((k % (xs.length : Int)).toNat : Int) = k % (xs.length : Int) := Int.toNat_of_nonneg h1
  have h3 : (k % (xs.length : Int)).toNat < xs.length := by omega
  refine ⟨xs[(k % (xs.length : Int)).toNat], ?_⟩
  have := atI_nat (xs := xs) (j := (k % (xs.length : Int)).toNat) (List.getElem?_eq_getElem h3)
  rw [e] at this
  exact this
def eSm_k3 (f : Str → List D → Option V) (z : Str) (es : List D) : Mi D := fun r => toO ((f z es).map D.v) r
@[simp] theorem eSm_k3_app (f : Str → List D → Option V) (z : Str) (es : List D) (r : OEnv) : eSm_k3 f z es r = toO ((f z es).map D.v) r := rfl
def eSm_k2 (f : Str → List D → Option V) (ma : Mi (List D)) (z : Str) : Mi D := bnd ma (eSm_k3 f z)
@[simp] theorem eSm_k2_app (f : Str → List D → Option V) (ma : Mi (List D)) (z : Str) (r : OEnv) : eSm_k2 f ma z r = (ma r).bind (eSm_k3 f z) := rfl
def eSm_k1 (f : Str → List D → Option V) (ma : Mi (List D)) (x : D) : Mi D := bnd (lift (asS x)) (eSm_k2 f ma)
@[simp] theorem eSm_k1_app (f : Str → List D → Option V) (ma : Mi (List D)) (x : D) (r : OEnv) : eSm_k1 f ma x r = (toO (asS x) r).bind (eSm_k2 f ma) := rfl
@[simp] theorem eSm_app (f : Str → List D → Option V) (mo : Mi D) (ma : Mi (List D)) (r : OEnv) : eSm f mo ma r = (mo r).bind (eSm_k1 f ma) := by
  unfold eSm bnd
  refine bind_ext fun x s => ?_
  rw [eSm_k1_app]
  cases e : asS x with
  | none => rfl
  | some z => rfl
end DM
/-! DmQ: plain rows about texts, lists, reprs. -/
namespace DM
open PySem PySem.Spec PyProof.Rows L2
/-! ### texts -/
/-- a text of signs below 128 -/
structure OkS (n : Nat) (w : Str) : Prop where
  len : w.length ≤ n
  low : ∀ c ∈ w.cps.toList, c < 128
theorem slen (w : Str) : w.cps.toList.length = w.length := by simp [Str.length]
theorem app_cps (a b : Str) : (a ++ b).cps.toList = a.cps.toList ++ b.cps.toList := by
  show (a.cps ++ b.cps).toList = _
  simp
theorem app_len (a b : Str) : (a ++ b).length = a.length + b.length := by
  rw [← slen, ← slen, ← slen, app_cps, List.length_append]
theorem OkS.app {n m : Nat} {a b : Str} (h1 : OkS n a) (h2 : OkS m b) : OkS (n + m) (a ++ b) := by
  refine ⟨?_, fun c hc => ?_⟩
  · rw [app_len]
    have := h1.len; have := h2.len; omega
  · rw [app_cps] at hc
    exact (List.mem_append.mp hc).elim (h1.low c) (h2.low c)
theorem OkS.mono {n m : Nat} {a : Str} (h : OkS n a) (k : n ≤ m) : OkS m a := ⟨by have := h.len; omega, h.low⟩
/-! ### a comprehension, by what its elements are -/
/-! ### repr -/
theorem pow600 : (2 : Int) ^ 1000 ≤ 10 ^ 302 := by decide +kernel
theorem dec_len {i : Int} (h1 : -(2 ^ 1000) < i) (h2 : i < 2 ^ 1000) : (PyData.shown (.int i)).length ≤ 600 := by
  have e : PyData.shown (.int i) = Str.ofString (toString i) := rfl
  have p := pow600
  rw [e]
  by_cases h : 0 ≤ i
  · have := toString_length_le (v := i) h (k := 302) (by decide) (by omega)
    omega
  · rw [toString_neg (by omega), PyProof.Rows.ofString_length, String.toList_append, List.length_append, ← PyProof.Rows.ofString_length (toString (0 - i))]
    have := toString_length_le (v := 0 - i) (by omega) (k := 302) (by decide) (by omega)
    have e2 : ("-" : String).toList.length = 1 := rfl
    omega
theorem log_ok {i : Int} (h1 : -(2 ^ 1000) < i) (h2 : i < 2 ^ 1000) : i.natAbs.log2 < 1920 := by
  have : i.natAbs < 2 ^ 1000 := by
    have e2 : ((2 ^ 1000 : Nat) : Int) = 2 ^ 1000 := by decide +kernel
    omega
  by_cases h0 : i.natAbs = 0
  · rw [h0]; decide +kernel
  · have := (Nat.log2_lt h0).mpr this
    omega
mutual
/-- things whose repr is no trouble -/
def rok : D → Bool
  | .v x => match x with
    | .non | .bl _ => true
    | .int i => decide (-(2 ^ 1000) < i) && decide (i < 2 ^ 1000)
    | .str s => s.cps.toList.all fun c => decide (c < 16 ^ 8)
    | _ => false
  | .lst xs => rokAll xs
  | .tup xs => rokAll xs
  | .dct kvs => rokKv kvs
  | .dcT kvs => rokKv kvs
  | .scr _ => false
  | .ex _ _ => false
def rokAll : List D → Bool
  | [] => true
  | x :: xs => rok x && rokAll xs
def rokKv : List (D × D) → Bool
  | [] => true
  | p :: r => rok p.1 && rok p.2 && rokKv r
end
mutual
theorem rok_ok : ∀ d : D, rok d = true → d.plain = true ∧ d.py.showable = true ∧ d.py.leavesShort 600 = true
  | .v x, h => by
    cases x with
    | non => exact ⟨rfl, rfl, rfl⟩
    | bl b => exact ⟨rfl, rfl, rfl⟩
    | int i =>
      obtain ⟨h1, h2⟩ := Bool.and_eq_true_iff.mp (show (decide (-(2 ^ 1000) < i) && decide (i < 2 ^ 1000)) = true from h)
      exact ⟨rfl, decide_eq_true (log_ok (of_decide_eq_true h1) (of_decide_eq_true h2)), decide_eq_true (dec_len (of_decide_eq_true h1) (of_decide_eq_true h2))⟩
    | str s => exact ⟨rfl, rfl, h⟩
    | _ => cases h
  | .lst xs, h => rok_all xs h
  | .tup xs, h => rok_all xs h
  | .dct kvs, h => rok_kv kvs h
  | .dcT kvs, h => rok_kv kvs h
  | .scr _, h => by cases h
  | .ex _ _, h => by cases h
theorem rok_all : ∀ xs : List D, rokAll xs = true → plainAll xs = true ∧ PyData.showableAll (pyAll xs) = true ∧ PyData.leavesShortAll 600 (pyAll xs) = true
  | [], _ => ⟨rfl, rfl, rfl⟩
  | x :: xs, h => by
    obtain ⟨h1, h2⟩ := Bool.and_eq_true_iff.mp (show (rok x && rokAll xs) = true from h)
    obtain ⟨a1, a2, a3⟩ := rok_ok x h1
    obtain ⟨b1, b2, b3⟩ := rok_all xs h2
    refine ⟨?_, ?_, ?_⟩
    · show (x.plain && plainAll xs) = true
      rw [a1, b1]; rfl
    · show (x.py.showable && PyData.showableAll (pyAll xs)) = true
      rw [a2, b2]; rfl
    · show (x.py.leavesShort 600 && PyData.leavesShortAll 600 (pyAll xs)) = true
      rw [a3, b3]; rfl
theorem rok_kv : ∀ xs : List (D × D), rokKv xs = true → plainKv xs = true ∧ PyData.showableKv (pyKv xs) = true ∧ PyData.leavesShortKv 600 (pyKv xs) = true
  | [], _ => ⟨rfl, rfl, rfl⟩
  | p :: xs, h => by
    obtain ⟨h1, h2⟩ := Bool.and_eq_true_iff.mp (show (rok p.1 && rok p.2 && rokKv xs) = true from h)
    obtain ⟨h0, h1⟩ := Bool.and_eq_true_iff.mp h1
    obtain ⟨a1, a2, a3⟩ := rok_ok p.1 h0
    obtain ⟨c1, c2, c3⟩ := rok_ok p.2 h1
    obtain ⟨b1, b2, b3⟩ := rok_kv xs h2
    refine ⟨?_, ?_, ?_⟩
    · show (p.1.plain && p.2.plain && plainKv xs) = true
      rw [a1, c1, b1]; rfl
    · show (p.1.py.showable && p.2.py.showable && PyData.showableKv (pyKv xs)) = true
      rw [a2, c2, b2]; rfl
    · show (p.1.py.leavesShort 600 && p.2.py.leavesShort 600 && PyData.leavesShortKv 600 (pyKv xs)) = true
      rw [a3, c3, b3]; rfl
end
theorem repr_ok {d : D} (h : rok d = true) (hw : d.py.weight ≤ 20000) (hd : d.py.depth ≤ 60) : bRepr [d] = some (.str d.py.shown) := by
  obtain ⟨h1, h2, h3⟩ := rok_ok d h
  have h4 := PyData.shown_le 600 (by decide) d.py h3
  have : 602 * d.py.weight ≤ 602 * 20000 := Nat.mul_le_mul_left _ hw
  exact if_pos ⟨h1, h2, hd, by omega⟩
@[simp] theorem opNe_ss (a b : Str) : opNe (.v (.str a)) (.v (.str b)) = some (!decide (a = b)) := rfl
@[simp] theorem opEq_ss (a b : Str) : opEq (.v (.str a)) (.v (.str b)) = some (decide (a = b)) := rfl
@[simp] theorem opEq_ii (a b : Int) : opEq (.v (.int a)) (.v (.int b)) = some (decide (a = b)) := rfl
@[simp] theorem opNe_ii (a b : Int) : opNe (.v (.int a)) (.v (.int b)) = some (!decide (a = b)) := rfl
@[simp] theorem opIn_ss (a b : Str) : opIn (.v (.str a)) (.v (.str b)) = some (subStr a b) := rfl
@[simp] theorem opNotIn_ss (a b : Str) : opNotIn (.v (.str a)) (.v (.str b)) = some (!subStr a b) := rfl
theorem asBs_map {α : Type} (g : α → Bool) : ∀ xs : List α, asBs (xs.map fun c => D.bl (g c)) = some (xs.map g)
  | [] => rfl
  | x :: xs => by
    show (asB (D.bl (g x))).bind _ = _
    rw [show asB (D.bl (g x)) = some (g x) from rfl]
    simp [asBs_map g xs]
theorem eqL_nil (xs : List D) : opEq (.lst xs) (.lst []) = some xs.isEmpty := by
  show (if shp (.lst xs) = true ∧ shp (.lst []) = true then some (PyData.eqv (D.lst xs).py (D.lst []).py) else some xs.isEmpty) = _
  split
  · cases xs with
    | nil => simp [D.py, pyAll, PyData.eqv, PyData.eqvAll]
    | cons w ws => simp [D.py, pyAll, PyData.eqv, PyData.eqvAll]
  · rfl
theorem ix_lst {ds : List D} {i : Int} (n : Int) (hn : n = ds.length) (h : 0 < n) : ∃ d ∈ ds, ixD (.lst ds) (.v (.int (i % n))) = some d := by
  subst hn
  obtain ⟨d, e⟩ := atI_mod (xs := ds) (k := i) (by omega)
  refine ⟨d, ?_, e⟩
  obtain ⟨j, h1, h2⟩ := atI_at e
  exact List.mem_of_getElem? h2
/-! ### more that is walked -/
def iZip_k (xs : List D) : Mi (List D) := lift (zipOf xs)
@[simp] theorem iZip_k_app (xs : List D) (r : OEnv) : iZip_k xs r = toO (zipOf xs) r := rfl
@[simp] theorem iZip_app (m : Mi (List D)) (r : OEnv) : iZip m r = (m r).bind iZip_k := rfl
def iEnumM_k (xs : List D) : Mi (List D) := lift (enumOf xs)
@[simp] theorem iEnumM_k_app (xs : List D) (r : OEnv) : iEnumM_k xs r = toO (enumOf xs) r := rfl
@[simp] theorem iEnumM_app (m : Mi (List D)) (r : OEnv) : iEnumM m r = (m r).bind iEnumM_k := rfl
@[simp] theorem sWh_app (f : Env → Nat) (c : Mi Bool) (b : Ms) (r : OEnv) : sWh f c b r = whL c b (f r) r := rfl
def eMut_k (i : Nat) (f : List D → List D → Option (D × List D)) (es : List D) : Mi D := fun ρ1 => match ρ1[i]? with
  | some (some (.lst ds)) => (match f ds es with
    | some (d, ds') => .ok d (ρ1.set i (some (.lst ds')))
    | none => .bad)
  | _ => .bad
def mutO (o : Option (D × List D)) (i : Nat) (r : OEnv) : Out D := match o with
  | some (d, ds') => .ok d (r.set i (some (.lst ds')))
  | none => .bad
@[simp] theorem mutO_some (d : D) (ds : List D) (i : Nat) (r : OEnv) : mutO (some (d, ds)) i r = .ok d (r.set i (some (.lst ds))) := rfl
def mutG (o : Option (Option D)) (i : Nat) (f : List D → List D → Option (D × List D)) (es : List D) (r : OEnv) : Out D := match o with
  | some (some (.lst ds)) => mutO (f ds es) i r
  | _ => .bad
@[simp] theorem mutG_some (ds : List D) (i : Nat) (f : List D → List D → Option (D × List D)) (es : List D) (r : OEnv) : mutG (some (some (.lst ds))) i f es r = mutO (f ds es) i r := rfl
@[simp] theorem eMut_k_app (i : Nat) (f : List D → List D → Option (D × List D)) (es : List D) (r : OEnv) : eMut_k i f es r = mutG r[i]? i f es r := by
  unfold eMut_k mutG mutO
  cases r[i]? with
  | none => rfl
  | some y => cases y with
    | none => rfl
    | some d => cases d <;> rfl
@[simp] theorem eMut_app (i : Nat) (f : List D → List D → Option (D × List D)) (m : Mi (List D)) (r : OEnv) : eMut i f m r = if isSet r[i]? then (m r).bind (eMut_k i f) else .bad := by
  unfold eMut isSet
  split
  · rename_i d e
    simp only [e]
    rfl
  · rename_i e
    cases q : r[i]? with
    | none => simp
    | some y => cases y with
      | none => simp
      | some d => exact absurd q (e d)
theorem mAppend_ok {ds : List D} {x : D} (h : ds.length < 16777216) : mAppend ds [x] = some (.non, ds ++ [x]) := if_pos h
theorem opAdd_ll {xs ys : List D} (h : xs.length + ys.length ≤ 16777216) : opAdd (.lst xs) (.lst ys) = some (.lst (xs ++ ys)) := if_pos (by rw [szl]; exact h)
theorem opAdd_tt {xs ys : List D} (h : xs.length + ys.length ≤ 16777216) : opAdd (.tup xs) (.tup ys) = some (.tup (xs ++ ys)) := if_pos (by rw [szl]; exact h)
theorem rng_nat {n : Int} (h0 : 0 ≤ n) (h1 : n ≤ 1000000) : rngOf [.int n] = some ((List.range n.toNat).map fun (k : Nat) => D.int (k : Int)) := by
  have : big n = true := by unfold big; simp; omega
  simp [rngOf, this]
end DM
/-! DmS: mirrors without slots: Re, J (a mirror at known slots does what a plain function tells). -/
namespace DM
open PySem PySem.Spec PyProof.Rows L2

/-- what a plain function tells; bad: nothing is claimed -/
inductive Re (α : Type) where
  | ok (a : α)
  | exc (x : Xn)
  | bad
namespace Re
variable {α β ω : Type}
def bind (r : Re α) (k : α → Re β) : Re β := match r with
  | .ok a => k a
  | .exc x => .exc x
  | .bad => .bad
def ofO (o : Option α) (k : α → Re β) : Re β := match o with
  | some a => k a
  | none => .bad
@[simp] theorem bind_ok (a : α) (k : α → Re β) : (Re.ok a).bind k = k a := rfl
@[simp] theorem bind_exc (x : Xn) (k : α → Re β) : (Re.exc x : Re α).bind k = .exc x := rfl
@[simp] theorem bind_bad (k : α → Re β) : (Re.bad : Re α).bind k = .bad := rfl
@[simp] theorem ofO_some (a : α) (k : α → Re β) : ofO (some a) k = k a := rfl
@[simp] theorem ofO_none (k : α → Re β) : ofO none k = .bad := rfl
def and (r s : Re Bool) : Re Bool := r.bind fun k => if k = true then s else .ok false
def or (r s : Re Bool) : Re Bool := r.bind fun k => if k = true then .ok true else s
@[simp] theorem and_true (s : Re Bool) : and (.ok true) s = s := rfl
@[simp] theorem and_false (s : Re Bool) : and (.ok false) s = .ok false := rfl
@[simp] theorem or_true (s : Re Bool) : or (.ok true) s = .ok true := rfl
@[simp] theorem or_false (s : Re Bool) : or (.ok false) s = s := rfl
def andD (r s : Re D) : Re D := r.bind fun x => ofO (asB x) fun k => if k = true then s else .ok (.bl false)
def orD (r s : Re D) : Re D := r.bind fun x => ofO (asB x) fun k => if k = true then .ok (.bl true) else s
@[simp] theorem andD_true (s : Re D) : andD (.ok (.v (.bl true))) s = s := rfl
@[simp] theorem andD_false (s : Re D) : andD (.ok (.v (.bl false))) s = .ok (.bl false) := rfl
@[simp] theorem orD_true (s : Re D) : orD (.ok (.v (.bl true))) s = .ok (.bl true) := rfl
@[simp] theorem orD_false (s : Re D) : orD (.ok (.v (.bl false))) s = s := rfl
end Re
/-- how a block ends: at its end with what it carries, or it is left -/
inductive Fl (β ω : Type) where
  | nx (b : β)
  | bk (b : β)
  | rt (w : ω)
def Re.esc {β ω : Type} (r : Re (Fl β ω)) (k : β → Re ω) : Re ω := match r with
  | .ok (.nx b) => k b
  | .ok (.bk b) => k b
  | .ok (.rt w) => .ok w
  | .exc x => .exc x
  | .bad => .bad
@[simp] theorem Re.esc_nx {β ω : Type} (b : β) (k : β → Re ω) : (Re.ok (.nx b) : Re (Fl β ω)).esc k = k b := rfl
@[simp] theorem Re.esc_bk {β ω : Type} (b : β) (k : β → Re ω) : (Re.ok (.bk b) : Re (Fl β ω)).esc k = k b := rfl
@[simp] theorem Re.esc_rt {β ω : Type} (w : ω) (k : β → Re ω) : (Re.ok (.rt w) : Re (Fl β ω)).esc k = .ok w := rfl
@[simp] theorem Re.esc_exc {β ω : Type} (x : Xn) (k : β → Re ω) : (Re.exc x : Re (Fl β ω)).esc k = .exc x := rfl
@[simp] theorem Re.esc_bad {β ω : Type} (k : β → Re ω) : (Re.bad : Re (Fl β ω)).esc k = .bad := rfl

/-! ### what is known of the slots -/
inductive Sl where
  | any | no | has
  | is (d : D)
def Sl.ok : Sl → Option D → Prop
  | .any, _ => True
  | .no, o => o = none
  | .has, o => o ≠ none
  | .is d, o => o = some d
abbrev Gm := List Sl
def Agr : Gm → OEnv → Prop
  | [], [] => True
  | s :: Γ, o :: ρ => s.ok o ∧ Agr Γ ρ
  | _, _ => False
inductive SlLe : Sl → Sl → Prop
  | any {s} : SlLe s .any
  | rfl {s} : SlLe s s
  | has {d} : SlLe (.is d) .has
theorem SlLe.ok {s t : Sl} {o : Option D} (h : SlLe s t) (k : s.ok o) : t.ok o := by
  cases h with
  | any => trivial
  | rfl => exact k
  | has => show o ≠ none; rw [show o = some _ from k]; exact fun z => nomatch z
inductive LeG : Gm → Gm → Prop
  | nil : LeG [] []
  | cons {s t Γ Γ'} : SlLe s t → LeG Γ Γ' → LeG (s :: Γ) (t :: Γ')
theorem LeG.refl : ∀ Γ, LeG Γ Γ
  | [] => .nil
  | _ :: Γ => .cons .rfl (LeG.refl Γ)
theorem LeG.a {s Γ Γ'} (h : LeG Γ Γ') : LeG (s :: Γ) (.any :: Γ') := .cons .any h
theorem LeG.s {s Γ Γ'} (h : LeG Γ Γ') : LeG (s :: Γ) (s :: Γ') := .cons .rfl h
theorem LeG.h {d Γ Γ'} (h : LeG Γ Γ') : LeG (.is d :: Γ) (.has :: Γ') := .cons .has h
theorem LeG.ag : ∀ {Γ Γ' ρ}, LeG Γ Γ' → Agr Γ ρ → Agr Γ' ρ
  | [], [], [], _, _ => trivial
  | s :: Γ, t :: Γ', o :: ρ, .cons h1 h2, ⟨k1, k2⟩ => ⟨h1.ok k1, LeG.ag h2 k2⟩
  | [], [], _ :: _, _, k => k.elim
  | _ :: _, _ :: _, [], _, k => k.elim
  | _ :: _, [], _, h, _ => by cases h
  | [], _ :: _, _, h, _ => by cases h
theorem Agr.len : ∀ {Γ ρ}, Agr Γ ρ → ρ.length = Γ.length
  | [], [], _ => rfl
  | _ :: _, _ :: _, ⟨_, k⟩ => congrArg (· + 1) (Agr.len k)
  | [], _ :: _, k => k.elim
  | _ :: _, [], k => k.elim
theorem Agr.get : ∀ {Γ ρ} {i : Nat} {s}, Agr Γ ρ → Γ[i]? = some s → ∃ o, ρ[i]? = some o ∧ s.ok o
  | [], [], i, s, _, h => by simp at h
  | t :: Γ, o :: ρ, 0, s, ⟨k, _⟩, h => by simp at h; subst h; exact ⟨o, rfl, k⟩
  | t :: Γ, o :: ρ, i + 1, s, ⟨_, k⟩, h => by
    obtain ⟨o', a, b⟩ := Agr.get (i := i) k (by simpa using h)
    exact ⟨o', by simpa using a, b⟩
  | [], _ :: _, _, _, k, _ => k.elim
  | _ :: _, [], _, _, k, _ => k.elim
theorem Agr.set : ∀ {Γ ρ} (i : Nat) {s o}, Agr Γ ρ → s.ok o → Agr (Γ.set i s) (ρ.set i o)
  | [], [], i, s, o, h, _ => by simpa using h
  | t :: Γ, p :: ρ, 0, s, o, ⟨_, k⟩, h => ⟨h, k⟩
  | t :: Γ, p :: ρ, i + 1, s, o, ⟨a, k⟩, h => ⟨a, Agr.set i k h⟩
  | [], _ :: _, _, _, _, k, _ => k.elim
  | _ :: _, [], _, _, _, k, _ => k.elim
theorem Agr.is {Γ ρ} {i : Nat} {d} (h : Agr Γ ρ) (e : Γ[i]? = some (.is d)) : ρ[i]? = some (some d) := by
  obtain ⟨o, a, b⟩ := h.get e
  rw [a, show o = some d from b]
def anyG (n : Nat) : Gm := List.replicate n .any
theorem Agr.any : ∀ {n : Nat} {ρ : OEnv}, ρ.length = n → Agr (anyG n) ρ
  | 0, [], _ => trivial
  | n + 1, _ :: ρ, h => ⟨trivial, Agr.any (n := n) (by simpa using h)⟩
  | 0, _ :: _, h => by simp at h
  | _ + 1, [], h => by simp at h
theorem le_any : ∀ {n : Nat} {Γ : Gm}, Γ.length = n → LeG Γ (anyG n)
  | 0, [], _ => .nil
  | n + 1, _ :: Γ, h => .cons .any (le_any (n := n) (by simpa using h))
  | 0, _ :: _, h => by simp at h
  | _ + 1, [], h => by simp at h

/-! ### what is wanted of an outcome -/
structure Cz (α ω : Type) where
  P : ω → Out α → Prop
  X : Option Gm
def Fit {α ω : Type} (C : Cz α ω) (R : Re ω) (o : Out α) : Prop := match R with
  | .ok w => C.P w o
  | .exc x => (match C.X with
    | none => True
    | some Γ => ∃ ρ', o = .exc x ρ' ∧ Agr Γ ρ')
  | .bad => True
def J {α ω : Type} (C : Cz α ω) (m : Mi α) (Γ : Gm) (R : Re ω) : Prop := ∀ ρ, Agr Γ ρ → Fit C R (m ρ)
def cV {α : Type} (Γ : Gm) (X : Option Gm) : Cz α α := ⟨fun a o => ∃ ρ', o = .ok a ρ' ∧ Agr Γ ρ', X⟩
def cVM {α β : Type} (Γ' : β → Gm) (X : Option Gm) : Cz α (α × β) := ⟨fun w o => ∃ ρ', o = .ok w.1 ρ' ∧ Agr (Γ' w.2) ρ', X⟩
def cJoin {β : Type} (Γj : β → Gm) (X : Option Gm) : Cz Ctl β := ⟨fun b o => ∃ ρ', o = .ok .nx ρ' ∧ Agr (Γj b) ρ', X⟩
def cLoopP {β : Type} (Γh : β → Gm) (X : Option Gm) : Cz Ctl β := ⟨fun b o => ∃ ρ', (o = .ok .nx ρ' ∨ o = .ok .ct ρ') ∧ Agr (Γh b) ρ', X⟩
def cEsc {β ω : Type} (C : Cz Ctl ω) (Γj : β → Gm) : Cz Ctl (Fl β ω) := ⟨fun f o => match f with
  | .nx b => ∃ ρ', o = .ok .nx ρ' ∧ Agr (Γj b) ρ'
  | .bk b => ∃ ρ', o = .ok .nx ρ' ∧ Agr (Γj b) ρ'
  | .rt w => C.P w o ∧ ∀ ρ', o ≠ .ok .nx ρ', C.X⟩
def cLoopR {β ω : Type} (C : Cz Ctl ω) (Γh : β → Gm) : Cz Ctl (Fl β ω) := ⟨fun f o => match f with
  | .nx b => ∃ ρ', (o = .ok .nx ρ' ∨ o = .ok .ct ρ') ∧ Agr (Γh b) ρ'
  | .bk b => ∃ ρ', o = .ok .bk ρ' ∧ Agr (Γh b) ρ'
  | .rt w => C.P w o ∧ ∃ d ρ', o = .ok (.rt d) ρ', C.X⟩
def cTop {γ : Type} (g : γ → D × Gm) (X : Gm) : Cz Ctl γ := ⟨fun c o => ∃ ρ', (o = .ok (.rt (g c).1) ρ' ∨ ((g c).1 = .non ∧ o = .ok .nx ρ')) ∧ Agr (g c).2 ρ', some X⟩

section
variable {α β γ ω ω1 : Type} {C : Cz α ω} {Γ Γ1 : Gm} {R : Re ω} {m : Mi β} {k : β → Mi α}
theorem out_assoc (o : Out γ) (f : γ → OEnv → Out β) (k : β → OEnv → Out α) : (o.bind f).bind k = o.bind fun a ρ => (f a ρ).bind k := by
  cases o <;> rfl
theorem j_bb {m : Mi γ} {f : γ → Mi β} (h : J C (bnd m fun x => bnd (f x) k) Γ R) : J C (bnd (bnd m f) k) Γ R := by
  intro ρ a
  have := h ρ a
  show Fit C R (((m ρ).bind f).bind k)
  rw [out_assoc]
  exact this
theorem j_eta {m : Mi α} (h : J C (bnd m ret) Γ R) : J C m Γ R := by
  intro ρ a
  have := h ρ a
  have e : bnd m ret ρ = m ρ := by
    show (m ρ).bind ret = _
    cases m ρ <;> rfl
  rw [← e]; exact this
theorem j_K {k : D → Mi α} {d : D} (h : J C (k d) Γ R) : J C (bnd (eK d) k) Γ R := h
theorem j_var {k : D → Mi α} {i : Nat} {d : D} (hi : Γ[i]? = some (.is d)) (h : J C (k d) Γ R) : J C (bnd (eVar i) k) Γ R := by
  intro ρ a
  have := h ρ a
  show Fit C R ((eVar i ρ).bind k)
  rw [show eVar i ρ = .ok d ρ by rw [eVar_app, a.is hi]; rfl]
  exact this
theorem j_lift {o : Option β} {R : β → Re ω} (h : ∀ z, J C (k z) Γ (R z)) : J C (bnd (lift o) k) Γ (.ofO o R) := by
  cases o with
  | none => exact fun ρ a => trivial
  | some z => exact h z
theorem j_val {a : α} {X : Option Gm} (h : LeG Γ1 Γ) : J (cV Γ X) (ret a) Γ1 (.ok a) := fun ρ g => ⟨ρ, rfl, h.ag g⟩
theorem j_sub {r : Re β} {R : β → Re ω} (h : J (cV Γ C.X) m Γ r) (hk : ∀ a, J C (k a) Γ (R a)) : J C (bnd m k) Γ (r.bind R) := by
  intro ρ a
  have := h ρ a
  show Fit C _ ((m ρ).bind k)
  cases r with
  | bad => exact trivial
  | exc x =>
    show Fit C (.exc x) _
    unfold Fit at this ⊢
    cases e : C.X with
    | none => trivial
    | some Γx =>
      simp only [cV, e] at this ⊢
      obtain ⟨ρ', h1, h2⟩ := this
      rw [h1]
      exact ⟨ρ', rfl, h2⟩
  | ok v =>
    obtain ⟨ρ', h1, h2⟩ := this
    rw [h1]
    exact hk v ρ' h2
def ifS (k : Bool) (m n : Mi α) : Mi α := if k = true then m else n
theorem j_ite {c : Bool} {m n : Mi α} {R1 R2 : Re ω} (h1 : J C m Γ R1) (h2 : J C n Γ R2) : J C (ifS c m n) Γ (if c = true then R1 else R2) := by
  intro ρ a
  unfold ifS
  cases c with
  | true => exact h1 ρ a
  | false => exact h2 ρ a
/-! expressions -/
variable {kd : D → Mi α} {kb : Bool → Mi α} {ma mb mc : Mi D} {ca cb : Mi Bool} {ms : Mi (List D)} {kl : List D → Mi α}
theorem j_op {f} (h : J C (bnd ma fun x => bnd mb fun y => bnd (lift (f x y)) kd) Γ R) : J C (bnd (eOp f ma mb) kd) Γ R := by
  unfold eOp; refine j_bb ?_; simp only [show ∀ (x : D), bnd (bnd mb fun y => lift (f x y)) kd = bnd mb fun y => bnd (lift (f x y)) kd from fun x => funext fun ρ => out_assoc _ _ _]; exact h
theorem bnd_assoc {m : Mi γ} {f : γ → Mi β} {k : β → Mi α} : bnd (bnd m f) k = bnd m fun x => bnd (f x) k := funext fun ρ => out_assoc _ _ _
theorem j_cmp {f} (h : J C (bnd ma fun x => bnd mb fun y => bnd (lift (f x y)) fun b => kd (.bl b)) Γ R) : J C (bnd (eCmp f ma mb) kd) Γ R := by
  have e : bnd (eCmp f ma mb) kd = bnd ma fun x => bnd mb fun y => bnd (lift (f x y)) fun b => kd (.bl b) := by
    unfold eCmp; simp only [bnd_assoc]
    congr; funext x; congr; funext y
    cases f x y <;> rfl
  rw [e]; exact h
theorem j_tcp {f} (h : J C (bnd ma fun x => bnd mb fun y => bnd (lift (f x y)) kb) Γ R) : J C (bnd (tCp f ma mb) kb) Γ R := by
  unfold tCp; simp only [bnd_assoc]; exact h
theorem j_chain {f g} {r : D → D → Re Bool} {Rk : Bool → Re ω} {R0 : (D → D → Re ω) → Re ω} (h : J C (bnd ma fun x => bnd mb fun y => bnd (bnd (lift (f x y)) fun k => ifS k (bnd mc fun z => lift (g y z)) (ret false)) fun b => kd (.bl b)) Γ R) : J C (bnd (eChain f g ma mb mc) kd) Γ R := by
  have e : bnd (eChain f g ma mb mc) kd = bnd ma fun x => bnd mb fun y => bnd (bnd (lift (f x y)) fun k => ifS k (bnd mc fun z => lift (g y z)) (ret false)) fun b => kd (.bl b) := by
    unfold eChain; simp only [bnd_assoc]
    congr; funext x; congr; funext y; congr; funext k
    cases k with
    | false => rfl
    | true =>
      show bnd (bnd mc _) kd = bnd (bnd mc _) _
      simp only [bnd_assoc]
      congr; funext z
      cases g y z <;> rfl
  rw [e]; exact h
theorem j_tchn {f g} (h : J C (bnd ma fun x => bnd mb fun y => bnd (bnd (lift (f x y)) fun k => ifS k (bnd mc fun z => lift (g y z)) (ret false)) kb) Γ R) : J C (bnd (tChn f g ma mb mc) kb) Γ R := by
  have e : bnd (tChn f g ma mb mc) kb = bnd ma fun x => bnd mb fun y => bnd (bnd (lift (f x y)) fun k => ifS k (bnd mc fun z => lift (g y z)) (ret false)) kb := by
    unfold tChn; simp only [bnd_assoc]; rfl
  rw [e]; exact h
theorem j_nil (h : J C (kl []) Γ R) : J C (bnd aNil kl) Γ R := h
theorem j_cons (h : J C (bnd ma fun x => bnd ms fun xs => kl (x :: xs)) Γ R) : J C (bnd (aCons ma ms) kl) Γ R := by
  unfold aCons; simp only [bnd_assoc]; exact h
def mkL (ds : List D) : Option D := if ds.length ≤ 16777216 then some (.lst ds) else none
theorem j_tup {ds : List D} (h : J C (kd (.tup ds)) Γ R) (hl : ds.length ≤ 16777216) : J C (bnd (lift (if ds.length ≤ 16777216 then some (D.tup ds) else none)) kd) Γ R := by
  rw [if_pos hl]; exact h
theorem j_eTup (h : J C (bnd ms fun ds => bnd (lift (if ds.length ≤ 16777216 then some (D.tup ds) else none)) kd) Γ R) : J C (bnd (eTup ms) kd) Γ R := by
  unfold eTup; simp only [bnd_assoc]; exact h
theorem j_lst {ds : List D} (h : J C (kd (.lst ds)) Γ R) (hl : ds.length ≤ 16777216) : J C (bnd (lift (if ds.length ≤ 16777216 then some (D.lst ds) else none)) kd) Γ R := by
  rw [if_pos hl]; exact h
theorem j_eLst (h : J C (bnd ms fun ds => bnd (lift (if ds.length ≤ 16777216 then some (D.lst ds) else none)) kd) Γ R) : J C (bnd (eLst ms) kd) Γ R := by
  unfold eLst; simp only [bnd_assoc]; exact h
theorem j_ix (h : J C (bnd ma fun x => bnd mb fun y => bnd (lift (ixD x y)) kd) Γ R) : J C (bnd (eIx ma mb) kd) Γ R := by
  unfold eIx; simp only [bnd_assoc]; exact h
theorem j_un {f} (h : J C (bnd ma fun x => bnd (lift (f x)) kd) Γ R) : J C (bnd (eUn f ma) kd) Γ R := by
  unfold eUn; simp only [bnd_assoc]; exact h
theorem j_b {f} (h : J C (bnd ms fun es => bnd (lift ((f es).map D.v)) kd) Γ R) : J C (bnd (eB f ms) kd) Γ R := by
  unfold eB; simp only [bnd_assoc]; exact h
variable {ko : Option Int → Mi α} {ml mh : Mi (Option Int)}
theorem j_oNone (h : J C (ko none) Γ R) : J C (bnd oNone ko) Γ R := h
theorem j_oSome (h : J C (bnd ma fun x => bnd (lift (asI x)) fun i => ko (some i)) Γ R) : J C (bnd (oSome ma) ko) Γ R := by
  have e : bnd (oSome ma) ko = bnd ma fun x => bnd (lift (asI x)) fun i => ko (some i) := by
    unfold oSome; simp only [bnd_assoc]
    congr; funext x
    cases asI x <;> rfl
  rw [e]; exact h
theorem j_sl {f} (h : J C (bnd ma fun x => bnd ml fun lo => bnd mh fun hi => bnd (lift (f x lo hi)) kd) Γ R) : J C (bnd (eSl f ma ml mh) kd) Γ R := by
  unfold eSl; simp only [bnd_assoc]; exact h
theorem j_tval (h : J C (bnd ma fun x => bnd (lift (asB x)) kb) Γ R) : J C (bnd (tVal ma) kb) Γ R := by
  unfold tVal; simp only [bnd_assoc]; exact h
theorem j_tnot (h : J C (bnd ca fun b => kb (!b)) Γ R) : J C (bnd (tNotM ca) kb) Γ R := by
  unfold tNotM; simp only [bnd_assoc]; exact h
theorem j_not (h : J C (bnd ma fun x => bnd (lift (asB x)) fun b => kd (.bl (!b))) Γ R) : J C (bnd (eNot ma) kd) Γ R := by
  unfold eNot; simp only [bnd_assoc]; exact h
theorem j_tand {r s : Re Bool} {Rk : Bool → Re ω} (h1 : J (cV Γ C.X) ca Γ r) (h2 : J (cV Γ C.X) cb Γ s) (hk : ∀ b, J C (kb b) Γ (Rk b)) : J C (bnd (tAndM ca cb) kb) Γ ((r.and s).bind Rk) :=
  j_sub (C := C) (m := tAndM ca cb) (j_sub (C := cV Γ C.X) h1 fun b => j_ite (m := cb) (n := ret false) h2 (j_val (LeG.refl _))) hk
theorem j_tor {r s : Re Bool} {Rk : Bool → Re ω} (h1 : J (cV Γ C.X) ca Γ r) (h2 : J (cV Γ C.X) cb Γ s) (hk : ∀ b, J C (kb b) Γ (Rk b)) : J C (bnd (tOrM ca cb) kb) Γ ((r.or s).bind Rk) :=
  j_sub (C := C) (m := tOrM ca cb) (j_sub (C := cV Γ C.X) h1 fun b => j_ite (m := ret true) (n := cb) (j_val (LeG.refl _)) h2) hk
theorem j_and {r s : Re D} {Rk : D → Re ω} (h1 : J (cV Γ C.X) ma Γ r) (h2 : J (cV Γ C.X) mb Γ s) (hk : ∀ b, J C (kd b) Γ (Rk b)) : J C (bnd (eAnd ma mb) kd) Γ ((r.andD s).bind Rk) :=
  j_sub (C := C) (m := eAnd ma mb) (j_sub (C := cV Γ C.X) h1 fun b => j_lift fun c => j_ite (m := mb) (n := ret (.bl false)) h2 (j_val (LeG.refl _))) hk
theorem j_eif {c : Mi Bool} {rc : Re Bool} {r s : Re D} {Rk : D → Re ω} (hc : J (cV Γ C.X) c Γ rc) (h1 : J (cV Γ C.X) ma Γ r) (h2 : J (cV Γ C.X) mb Γ s) (hk : ∀ b, J C (kd b) Γ (Rk b)) :
    J C (bnd (eIf c ma mb) kd) Γ ((rc.bind fun k => if k = true then r else s).bind Rk) :=
  j_sub (C := C) (m := eIf c ma mb) (j_sub (C := cV Γ C.X) hc fun b => j_ite (m := ma) (n := mb) h1 h2) hk
end
end DM
/-! DmU: statements, loops, comprehensions, calls, defs without slots. -/
namespace DM
open PySem PySem.Spec PyProof.Rows L2

section
variable {α β γ ω ω1 : Type} {C : Cz α ω} {D0 : Cz Ctl ω} {Γ Γ1 : Gm} {R : Re ω} {ma mb : Mi D} {ms : Mi (List D)} {s t u : Ms}
/-! ends -/
def Nx (C : Cz Ctl ω) (w : ω) (Γ : Gm) : Prop := ∀ ρ, Agr Γ ρ → C.P w (.ok .nx ρ)
def Rt (C : Cz Ctl ω) (w : ω) (d : D) (Γ : Gm) : Prop := ∀ ρ, Agr Γ ρ → C.P w (.ok (.rt d) ρ)
theorem nx_loop {Γj : β → Gm} {b : β} {X} (h : LeG Γ (Γj b)) : Nx (cLoopP Γj X) b Γ := fun ρ a => ⟨ρ, .inl rfl, h.ag a⟩
theorem nx_loopR {Γj : β → Gm} {b : β} (h : LeG Γ (Γj b)) : Nx (cLoopR D0 Γj) (.nx b) Γ := fun ρ a => ⟨ρ, .inl rfl, h.ag a⟩
theorem rt_loopR {Γj : β → Gm} {w : ω} {d : D} (h : Rt D0 w d Γ) : Rt (cLoopR D0 Γj) (.rt w) d Γ := fun ρ a => ⟨h ρ a, d, ρ, rfl⟩
theorem nx_esc {Γj : β → Gm} {b : β} (h : LeG Γ (Γj b)) : Nx (cEsc D0 Γj) (.nx b) Γ := fun ρ a => ⟨ρ, rfl, h.ag a⟩
theorem rt_esc {Γj : β → Gm} {w : ω} {d : D} (h : Rt D0 w d Γ) : Rt (cEsc D0 Γj) (.rt w) d Γ := fun ρ a => ⟨h ρ a, fun _ z => by cases z⟩
theorem nx_top {g : γ → D × Gm} {c : γ} {X} (e : (g c).1 = .non) (h : LeG Γ (g c).2) : Nx (cTop g X) c Γ := fun ρ a => ⟨ρ, .inr ⟨e, rfl⟩, h.ag a⟩
theorem rt_top {g : γ → D × Gm} {c : γ} {d : D} {X} (e : (g c).1 = d) (h : LeG Γ (g c).2) : Rt (cTop g X) c d Γ := fun ρ a => ⟨ρ, .inl (by rw [e]), h.ag a⟩
theorem j_end {w : ω} (h : Nx D0 w Γ) : J D0 sNil Γ (.ok w) := h
theorem j_ret' {w : ω} {d : D} (h : Rt D0 w d Γ) : J D0 (ret (.rt d)) Γ (.ok w) := h
/-! statements -/
theorem seq_bnd {m : Mi β} {f : β → Ms} : sSeq (bnd m f) t = bnd m fun x => sSeq (f x) t := by
  funext ρ
  show (match (m ρ).bind f with | .ok .nx ρ1 => t ρ1 | o => o) = (m ρ).bind fun x => sSeq (f x) t
  cases m ρ <;> rfl
theorem j_ss (h : J D0 (sSeq s (sSeq t u)) Γ R) : J D0 (sSeq (sSeq s t) u) Γ R := by
  have e : sSeq (sSeq s t) u = sSeq s (sSeq t u) := by
    funext ρ
    simp only [sSeq]
    cases s ρ with
    | ok c ρ1 => cases c <;> rfl
    | exc x ρ1 => rfl
    | bad => rfl
  rw [e]; exact h
theorem j_snil (h : J D0 t Γ R) : J D0 (sSeq sNil t) Γ R := h
theorem j_last (h : J D0 (sSeq s sNil) Γ R) : J D0 s Γ R := by
  have e : sSeq s sNil = s := by
    funext ρ
    simp only [sSeq]
    cases s ρ with
    | ok c ρ1 => cases c <;> rfl
    | exc x ρ1 => rfl
    | bad => rfl
  rw [← e]; exact h
theorem j_sRet (h : J D0 (bnd ma fun d => ret (.rt d)) Γ R) : J D0 (sSeq (sRet ma) t) Γ R := by
  unfold sRet; rw [seq_bnd]; exact h
theorem j_setI {i : Nat} {d : D} (hi : i < Γ.length) (h : J D0 t (Γ.set i (.is d)) R) : J D0 (sSeq (setI i d) t) Γ R := by
  intro ρ a
  have e : sSeq (setI i d) t ρ = t (ρ.set i (some d)) := by
    simp only [sSeq, setI]
    rw [if_pos (by rw [a.len]; exact hi)]
  rw [e]
  exact h _ (a.set i rfl)
theorem j_set {i : Nat} (h : J D0 (bnd ma fun d => sSeq (setI i d) t) Γ R) : J D0 (sSeq (sSet i ma) t) Γ R := by
  unfold sSet; rw [seq_bnd]; exact h
theorem j_exp (h : J D0 (bnd ma fun _ => t) Γ R) : J D0 (sSeq (sExp ma) t) Γ R := by
  unfold sExp; rw [seq_bnd]; exact h
theorem j_if {c : Mi Bool} (h : J D0 (bnd c fun k => ifS k (sSeq s t) (sSeq u t)) Γ R) : J D0 (sSeq (sIf c s u) t) Γ R := by
  unfold sIf; rw [seq_bnd]
  have e : (fun k => sSeq (if k = true then s else u) t) = fun k => ifS k (sSeq s t) (sSeq u t) := by
    funext k; cases k <;> rfl
  rw [e]; exact h
theorem j_if' {c : Mi Bool} (h : J D0 (bnd c fun k => ifS k s u) Γ R) : J D0 (sIf c s u) Γ R := h
theorem j_seq {Γj : β → Gm} {rs : Re β} {R : β → Re ω} (h : J (cJoin Γj D0.X) s Γ rs) (ht : ∀ b, J D0 t (Γj b) (R b)) : J D0 (sSeq s t) Γ (rs.bind R) := by
  intro ρ a
  have := h ρ a
  show Fit D0 _ (match s ρ with | .ok .nx ρ1 => t ρ1 | o => o)
  cases rs with
  | bad => exact trivial
  | exc x =>
    show Fit D0 (.exc x) _
    unfold Fit at this ⊢
    cases e : D0.X with
    | none => trivial
    | some Γx =>
      simp only [cJoin, e] at this ⊢
      obtain ⟨ρ', h1, h2⟩ := this
      rw [h1]
      exact ⟨ρ', rfl, h2⟩
  | ok v =>
    obtain ⟨ρ', h1, h2⟩ := this
    rw [h1]
    exact ht v ρ' h2
theorem j_esc {Γj : β → Gm} {rs : Re (Fl β ω)} {R : β → Re ω} (h : J (cEsc D0 Γj) s Γ rs) (ht : ∀ b, J D0 t (Γj b) (R b)) : J D0 (sSeq s t) Γ (rs.esc R) := by
  intro ρ a
  have := h ρ a
  show Fit D0 _ (match s ρ with | .ok .nx ρ1 => t ρ1 | o => o)
  cases rs with
  | bad => exact trivial
  | exc x =>
    show Fit D0 (.exc x) _
    unfold Fit at this ⊢
    cases e : D0.X with
    | none => trivial
    | some Γx =>
      simp only [cEsc, e] at this ⊢
      obtain ⟨ρ', h1, h2⟩ := this
      rw [h1]
      exact ⟨ρ', rfl, h2⟩
  | ok v =>
    cases v with
    | nx b =>
      obtain ⟨ρ', h1, h2⟩ := this
      rw [h1]
      exact ht b ρ' h2
    | bk b =>
      obtain ⟨ρ', h1, h2⟩ := this
      rw [h1]
      exact ht b ρ' h2
    | rt w =>
      obtain ⟨h1, h2⟩ := this
      have e : (match s ρ with | .ok .nx ρ1 => t ρ1 | o => o) = s ρ := by
        cases e : s ρ with
        | ok c ρ1 =>
          cases c with
          | nx => exact absurd e (h2 ρ1)
          | _ => rfl
        | exc x ρ1 => rfl
        | bad => rfl
      rw [e]
      exact h1
/-! targets -/
def setTm (mt : Mt) (d : D) (m : Mi α) : Mi α := fun ρ => match mt d ρ with
  | some ρ' => m ρ'
  | none => .bad
theorem j_asg {mt : Mt} (h : J D0 (bnd ma fun d => setTm mt d t) Γ R) : J D0 (sSeq (sAsg ma mt) t) Γ R := by
  have e : sSeq (sAsg ma mt) t = bnd ma fun d => setTm mt d t := by
    unfold sAsg; rw [seq_bnd]
    congr; funext d; funext ρ
    simp only [sSeq, setT, setTm]
    cases mt d ρ <;> rfl
  rw [e]; exact h
variable {m : Mi α}
theorem j_gNm {i : Nat} {d : D} (hi : i < Γ.length) (h : J C m (Γ.set i (.is d)) R) : J C (setTm (gNm i) d m) Γ R := by
  intro ρ a
  have e : setTm (gNm i) d m ρ = m (ρ.set i (some d)) := by
    simp only [setTm, gNm]
    rw [if_pos (by rw [a.len]; exact hi)]
  rw [e]
  exact h _ (a.set i rfl)
def parts : D → Option (List D)
  | .tup ds => some ds
  | .lst ds => some ds
  | _ => none
def setTms (mts : Mts) (ds : List D) (m : Mi α) : Mi α := fun ρ => match mts ds ρ with
  | some ρ' => m ρ'
  | none => .bad
theorem j_gNil (h : J C m Γ R) : J C (setTms gsNil [] m) Γ R := h
theorem j_gCons {mt : Mt} {mts : Mts} {d : D} {ds : List D} (h : J C (setTm mt d (setTms mts ds m)) Γ R) : J C (setTms (gsCons mt mts) (d :: ds) m) Γ R := by
  have e : setTms (gsCons mt mts) (d :: ds) m = setTm mt d (setTms mts ds m) := by
    funext ρ
    simp only [setTm, setTms, gsCons]
    cases mt d ρ <;> rfl
  rw [e]; exact h
def un1 (d : D) (k : D → Re ω) : Re ω := match d with
  | .tup [a] => k a
  | .lst [a] => k a
  | _ => .bad
def un2 (d : D) (k : D → D → Re ω) : Re ω := match d with
  | .tup [a, b] => k a b
  | .lst [a, b] => k a b
  | _ => .bad
def un3 (d : D) (k : D → D → D → Re ω) : Re ω := match d with
  | .tup [a, b, c] => k a b c
  | .lst [a, b, c] => k a b c
  | _ => .bad
def un4 (d : D) (k : D → D → D → D → Re ω) : Re ω := match d with
  | .tup [a, b, c, e] => k a b c e
  | .lst [a, b, c, e] => k a b c e
  | _ => .bad
def un5 (d : D) (k : D → D → D → D → D → Re ω) : Re ω := match d with
  | .tup [a, b, c, e, f] => k a b c e f
  | .lst [a, b, c, e, f] => k a b c e f
  | _ => .bad
@[simp] theorem un1_t (a : D) (k : D → Re ω) : un1 (.tup [a]) k = k a := rfl
@[simp] theorem un2_t (a b : D) (k : D → D → Re ω) : un2 (.tup [a, b]) k = k a b := rfl
@[simp] theorem un3_t (a b c : D) (k : D → D → D → Re ω) : un3 (.tup [a, b, c]) k = k a b c := rfl
@[simp] theorem un4_t (a b c e : D) (k : D → D → D → D → Re ω) : un4 (.tup [a, b, c, e]) k = k a b c e := rfl
@[simp] theorem un5_t (a b c e f : D) (k : D → D → D → D → D → Re ω) : un5 (.tup [a, b, c, e, f]) k = k a b c e f := rfl
@[simp] theorem un1_l (a : D) (k : D → Re ω) : un1 (.lst [a]) k = k a := rfl
@[simp] theorem un2_l (a b : D) (k : D → D → Re ω) : un2 (.lst [a, b]) k = k a b := rfl
@[simp] theorem un3_l (a b c : D) (k : D → D → D → Re ω) : un3 (.lst [a, b, c]) k = k a b c := rfl
@[simp] theorem un4_l (a b c e : D) (k : D → D → D → D → Re ω) : un4 (.lst [a, b, c, e]) k = k a b c e := rfl
@[simp] theorem un5_l (a b c e f : D) (k : D → D → D → D → D → Re ω) : un5 (.lst [a, b, c, e, f]) k = k a b c e f := rfl
theorem tupM_of {n : Nat} {mts : Mts} {ds : List D} (hl : ds.length = n) : setTm (gTupM n mts) (.tup ds) m = setTms mts ds m := by
  funext ρ
  simp only [setTm, setTms, gTupM, if_pos hl]
theorem tupM_ofL {n : Nat} {mts : Mts} {ds : List D} (hl : ds.length = n) : setTm (gTupM n mts) (.lst ds) m = setTms mts ds m := by
  funext ρ
  simp only [setTm, setTms, gTupM, if_pos hl]
theorem j_un2 {mts : Mts} {d : D} {R : D → D → Re ω} (h : ∀ a b, J C (setTms mts [a, b] m) Γ (R a b)) : J C (setTm (gTupM 2 mts) d m) Γ (un2 d R) := by
  unfold un2; split
  · rename_i a b; rw [tupM_of (n := 2) (ds := [a, b]) rfl]; exact h _ _
  · rename_i a b; rw [tupM_ofL (n := 2) (ds := [a, b]) rfl]; exact h _ _
  · exact fun _ _ => trivial
theorem j_un3 {mts : Mts} {d : D} {R : D → D → D → Re ω} (h : ∀ a b c, J C (setTms mts [a, b, c] m) Γ (R a b c)) : J C (setTm (gTupM 3 mts) d m) Γ (un3 d R) := by
  unfold un3; split
  · rename_i a b c; rw [tupM_of (n := 3) (ds := [a, b, c]) rfl]; exact h _ _ _
  · rename_i a b c; rw [tupM_ofL (n := 3) (ds := [a, b, c]) rfl]; exact h _ _ _
  · exact fun _ _ => trivial
def setD (x i d : D) : Option D := match x, i with
  | .lst ds, .v (.int k) => (ixN ds.length k).map fun j => .lst (ds.set j d)
  | _, _ => none
theorem j_gset {i : Nat} {mi : Mi D} {d x ix : D} {R : D → Re ω} (hx : Γ[i]? = some (.is x)) (hi : J (cV Γ none) mi Γ (.ok ix)) (h : ∀ z, J C m (Γ.set i (.is z)) (R z)) : J C (setTm (gSet i mi) d m) Γ (.ofO (setD x ix d) R) := by
  intro ρ a
  obtain ⟨ρ', e1, a1⟩ := hi ρ a
  have ex := a.is hx
  have ex1 := a1.is hx
  unfold setD
  split
  · rename_i ds k
    have e : setTm (gSet i mi) d m ρ = (match (ixN ds.length k) with | some j => m (ρ'.set i (some (.lst (ds.set j d)))) | none => .bad) := by
      simp only [setTm, gSet, ex, e1, ex1]
      cases ixN ds.length k <;> rfl
    rw [e]
    cases ixN ds.length k with
    | none => exact trivial
    | some j => exact h _ _ (a1.set i rfl)
  · exact trivial
theorem j_par {is : List Nat} (h : J D0 (bnd ms fun ds => sSeq (setA is ds) t) Γ R) : J D0 (sSeq (sPar is ms) t) Γ R := by
  unfold sPar; rw [seq_bnd]; exact h
theorem j_setA0 (h : J D0 t Γ R) : J D0 (sSeq (setA [] []) t) Γ R := h
theorem j_setA {i : Nat} {is : List Nat} {d : D} {ds : List D} (hi : i < Γ.length) (h : J D0 (sSeq (setA is ds) t) (Γ.set i (.is d)) R) : J D0 (sSeq (setA (i :: is) (d :: ds)) t) Γ R := by
  intro ρ a
  have e : sSeq (setA (i :: is) (d :: ds)) t ρ = sSeq (setA is ds) t (ρ.set i (some d)) := by
    simp only [sSeq, setA, setAll]
    rw [if_pos (by rw [a.len]; exact hi)]
  rw [e]
  exact h _ (a.set i rfl)
theorem j_aug {i : Nat} {f} (h : J D0 (bnd (eVar i) fun x => bnd mb fun y => bnd (lift (f x y)) fun z => sSeq (setI i z) t) Γ R) : J D0 (sSeq (sAug i f mb) t) Γ R := by
  unfold sAug
  simp only [seq_bnd]
  exact h
/-! walks -/
variable {mi : Mi (List D)} {kl : List D → Mi α}
theorem j_iVal (h : J C (bnd ma fun x => bnd (lift (itemsOf x)) kl) Γ R) : J C (bnd (iVal ma) kl) Γ R := by
  unfold iVal; simp only [bnd_assoc]; exact h
theorem j_iRng (h : J C (bnd ms fun xs => bnd (lift (rngOf xs)) kl) Γ R) : J C (bnd (iRng ms) kl) Γ R := by
  unfold iRng; simp only [bnd_assoc]; exact h
theorem j_iEnum (h : J C (bnd ms fun xs => bnd (lift (enumOfA xs)) kl) Γ R) : J C (bnd (iEnumAM ms) kl) Γ R := by
  unfold iEnumAM; simp only [bnd_assoc]; exact h
theorem j_for {mt : Mt} {body : Ms} (h : J D0 (bnd mi fun ds => sSeq (forL mt body ds) t) Γ R) : J D0 (sSeq (sFor mi mt body) t) Γ R := by
  unfold sFor; rw [seq_bnd]; exact h
end

/-! ### loops -/
def forP {β : Type} (B : D → β → Re β) : List D → β → Re β
  | [], b => .ok b
  | d :: ds, b => (B d b).bind (forP B ds)
def forR {β ω : Type} (B : D → β → Re (Fl β ω)) : List D → β → Re (Fl β ω)
  | [], b => .ok (.nx b)
  | d :: ds, b => match B d b with
    | .ok (.nx b') => forR B ds b'
    | .ok (.bk b') => .ok (.nx b')
    | .ok (.rt w) => .ok (.rt w)
    | .exc x => .exc x
    | .bad => .bad
def whP {β : Type} (Cd : β → Re Bool) (B : β → Re β) : Nat → β → Re β
  | 0, _ => .bad
  | n + 1, b => (Cd b).bind fun k => if k = true then (B b).bind (whP Cd B n) else .ok b
def lcR (B : D → Re (Option D)) : List D → Re (List D)
  | [] => .ok []
  | d :: ds => match B d with
    | .ok none => lcR B ds
    | .ok (some x) => (lcR B ds).bind fun xs => .ok (x :: xs)
    | _ => .bad
def lcRM {β : Type} (B : D → β → Re (Option D × β)) : List D → β → Re (List D × β)
  | [], b => .ok ([], b)
  | d :: ds, b => match B d b with
    | .ok (none, b') => lcRM B ds b'
    | .ok (some x, b') => (lcRM B ds b').bind fun r => .ok (x :: r.1, r.2)
    | _ => .bad
def lcGo (B : D → Re (Option D)) (ds : List D) : Re (List D) := if ds.length ≤ 16777216 then lcR B ds else .bad
def lcGoM {β : Type} (B : D → β → Re (Option D × β)) (ds : List D) (b : β) : Re (List D × β) := if ds.length ≤ 16777216 then lcRM B ds b else .bad
section
variable {α β γ ω ω1 : Type} {C : Cz α ω} {D0 : Cz Ctl ω} {Γ Γ1 : Gm} {R : Re ω} {ma mb : Mi D} {ms : Mi (List D)} {s t u : Ms} {mt : Mt} {body : Ms} {ds : List D}
theorem forL_P {Γh : β → Gm} {B : D → β → Re β} {X} (hb : ∀ d b, J (cLoopP Γh X) (setTm mt d body) (Γh b) (B d b)) : ∀ (ds : List D) (b : β), J (cJoin Γh X) (forL mt body ds) (Γh b) (forP B ds b)
  | [], b => fun ρ a => ⟨ρ, rfl, a⟩
  | d :: ds, b => by
    intro ρ a
    have h := hb d b ρ a
    unfold forP
    unfold setTm at h
    cases eB : B d b with
    | bad => exact trivial
    | exc x =>
      rw [eB] at h
      show Fit _ (.exc x) _
      unfold Fit at h ⊢
      cases e : X with
      | none => trivial
      | some Γx =>
        simp only [cLoopP, cJoin, e] at h ⊢
        obtain ⟨ρ', h1, h2⟩ := h
        cases et : mt d ρ with
        | none => rw [et] at h1; cases h1
        | some ρ1 =>
          rw [et] at h1
          exact ⟨ρ', by simp only [forL, et]; rw [show body ρ1 = _ from h1], h2⟩
    | ok b' =>
      rw [eB] at h
      obtain ⟨ρ', h1, h2⟩ := h
      have ih := forL_P hb ds b' ρ' h2
      cases et : mt d ρ with
      | none => rw [et] at h1; rcases h1 with h1 | h1 <;> cases h1
      | some ρ1 =>
        rw [et] at h1
        have e : forL mt body (d :: ds) ρ = forL mt body ds ρ' := by
          simp only [forL, et]
          rcases h1 with h1 | h1 <;> simp only [h1]
        rw [e]
        exact ih
theorem j_forP {Γh : β → Gm} {B : D → β → Re β} {b : β} {R : β → Re ω} (hb : ∀ d b, J (cLoopP Γh D0.X) (setTm mt d body) (Γh b) (B d b)) (h0 : LeG Γ (Γh b)) (ht : ∀ b, J D0 t (Γh b) (R b)) : J D0 (sSeq (forL mt body ds) t) Γ ((forP B ds b).bind R) :=
  j_seq (Γj := Γh) (fun ρ a => forL_P hb ds b ρ (h0.ag a)) ht
theorem forL_R {Γh : β → Gm} {B : D → β → Re (Fl β ω)} (hb : ∀ d b, J (cLoopR D0 Γh) (setTm mt d body) (Γh b) (B d b)) : ∀ (ds : List D) (b : β), J (cEsc D0 Γh) (forL mt body ds) (Γh b) (forR B ds b)
  | [], b => fun ρ a => ⟨ρ, rfl, a⟩
  | d :: ds, b => by
    intro ρ a
    have h := hb d b ρ a
    unfold forR
    unfold setTm at h
    cases eB : B d b with
    | bad => exact trivial
    | exc x =>
      rw [eB] at h
      show Fit _ (.exc x) _
      unfold Fit at h ⊢
      cases e : D0.X with
      | none => simp only [cEsc, e]
      | some Γx =>
        simp only [cLoopR, cEsc, e] at h ⊢
        obtain ⟨ρ', h1, h2⟩ := h
        cases et : mt d ρ with
        | none => rw [et] at h1; cases h1
        | some ρ1 =>
          rw [et] at h1
          exact ⟨ρ', by simp only [forL, et]; rw [show body ρ1 = _ from h1], h2⟩
    | ok f =>
      rw [eB] at h
      cases f with
      | nx b' =>
        obtain ⟨ρ', h1, h2⟩ := h
        have ih := forL_R hb ds b' ρ' h2
        cases et : mt d ρ with
        | none => rw [et] at h1; rcases h1 with h1 | h1 <;> cases h1
        | some ρ1 =>
          rw [et] at h1
          have e : forL mt body (d :: ds) ρ = forL mt body ds ρ' := by
            simp only [forL, et]
            rcases h1 with h1 | h1 <;> simp only [h1]
          rw [e]
          exact ih
      | bk b' =>
        obtain ⟨ρ', h1, h2⟩ := h
        cases et : mt d ρ with
        | none => rw [et] at h1; cases h1
        | some ρ1 =>
          rw [et] at h1
          have e : forL mt body (d :: ds) ρ = .ok .nx ρ' := by
            simp only [forL, et]; simp only [h1]
          rw [e]
          exact ⟨ρ', rfl, h2⟩
      | rt w =>
        obtain ⟨h0, d', ρ', h1⟩ := h
        cases et : mt d ρ with
        | none => rw [et] at h1; cases h1
        | some ρ1 =>
          rw [et] at h1 h0
          have e : forL mt body (d :: ds) ρ = .ok (.rt d') ρ' := by
            simp only [forL, et]; simp only [h1]
          rw [e]
          simp only [h1] at h0
          exact ⟨h0, fun _ z => by cases z⟩
theorem j_forR {Γh : β → Gm} {B : D → β → Re (Fl β ω)} {b : β} {R : β → Re ω} (hb : ∀ d b, J (cLoopR D0 Γh) (setTm mt d body) (Γh b) (B d b)) (h0 : LeG Γ (Γh b)) (ht : ∀ b, J D0 t (Γh b) (R b)) : J D0 (sSeq (forL mt body ds) t) Γ ((forR B ds b).esc R) :=
  j_esc (Γj := Γh) (fun ρ a => forL_R hb ds b ρ (h0.ag a)) ht
/-! while -/
theorem whL_P {Γh : β → Gm} {Cd : β → Re Bool} {B : β → Re β} {c : Mi Bool} {X} (hc : ∀ b, J (cV (Γh b) X) c (Γh b) (Cd b)) (hb : ∀ b, J (cLoopP Γh X) body (Γh b) (B b)) : ∀ (n : Nat) (b : β), J (cJoin Γh X) (whL c body n) (Γh b) (whP Cd B n b)
  | 0, b => fun ρ a => trivial
  | n + 1, b => by
    intro ρ a
    have h := hc b ρ a
    unfold whP
    cases eC : Cd b with
    | bad => exact trivial
    | exc x =>
      rw [eC] at h
      show Fit _ (.exc x) _
      unfold Fit at h ⊢
      cases e : X with
      | none => trivial
      | some Γx =>
        simp only [cV, cJoin, e] at h ⊢
        obtain ⟨ρ', h1, h2⟩ := h
        exact ⟨ρ', by simp only [whL, h1], h2⟩
    | ok k =>
      rw [eC] at h
      obtain ⟨ρ', h1, h2⟩ := h
      cases k with
      | false => exact ⟨ρ', by simp only [whL, h1], h2⟩
      | true =>
        have hB := hb b ρ' h2
        show Fit _ ((B b).bind (whP Cd B n)) _
        cases eB : B b with
        | bad => exact trivial
        | exc x =>
          rw [eB] at hB
          show Fit _ (.exc x) _
          unfold Fit at hB ⊢
          cases e : X with
          | none => trivial
          | some Γx =>
            simp only [cLoopP, cJoin, e] at hB ⊢
            obtain ⟨ρ2, h3, h4⟩ := hB
            exact ⟨ρ2, by simp only [whL, h1, h3], h4⟩
        | ok b' =>
          rw [eB] at hB
          obtain ⟨ρ2, h3, h4⟩ := hB
          have e : whL c body (n + 1) ρ = whL c body n ρ2 := by
            simp only [whL, h1]
            rcases h3 with h3 | h3 <;> simp only [h3]
          rw [e]
          exact whL_P hc hb n b' ρ2 h4
theorem j_whP {Γh : β → Gm} {Cd : β → Re Bool} {B : β → Re β} {c : Mi Bool} {n : Nat} {b : β} {R : β → Re ω} (hc : ∀ b, J (cV (Γh b) D0.X) c (Γh b) (Cd b)) (hb : ∀ b, J (cLoopP Γh D0.X) body (Γh b) (B b)) (h0 : LeG Γ (Γh b)) (ht : ∀ b, J D0 t (Γh b) (R b)) :
    J D0 (sSeq (sWh (fun _ => n) c body) t) Γ ((whP Cd B n b).bind R) :=
  j_seq (Γj := Γh) (fun ρ a => whL_P hc hb n b ρ (h0.ag a)) ht
/-! comprehensions -/
def lcM (own : List Nat) (mt : Mt) (mc : Mi Bool) (me : Mi D) (ds : List D) : Mi D := fun ρ => if ds.length ≤ 16777216 then lcL own ρ mt mc me [] ds (wipeE own ρ) else .bad
theorem j_lc {own : List Nat} {mc : Mi Bool} {me : Mi D} {mi : Mi (List D)} {kd : D → Mi α} (h : J C (bnd mi fun ds => bnd (lcM own mt mc me ds) kd) Γ R) : J C (bnd (eLc own mi mt mc me) kd) Γ R := by
  unfold eLc; simp only [bnd_assoc]; exact h
def lcB (mt : Mt) (mc : Mi Bool) (me : Mi D) (d : D) : Mi (Option D) := setTm mt d (bnd mc fun k => ifS k (bnd me fun x => ret (some x)) (ret none))
def wipeΓ : List Nat → Gm → Gm
  | [], Γ => Γ
  | v :: vs, Γ => (wipeΓ vs Γ).set v .any
theorem Agr.wipe : ∀ (own : List Nat) {Γ ρ}, Agr Γ ρ → Agr (wipeΓ own Γ) (wipeE own ρ)
  | [], _, _, h => h
  | v :: vs, _, _, h => (Agr.wipe vs h).set v trivial
theorem Agr.wipe2 : ∀ (own : List Nat) {Γ ρ}, Agr (wipeΓ own Γ) ρ → Agr (wipeΓ own Γ) (wipeE own ρ)
  | own, Γ, ρ, h => by
    have : ∀ (vs : List Nat) {Δ : Gm}, Agr Δ ρ → (∀ v ∈ vs, v < Δ.length → Δ[v]? = some .any) → Agr Δ (wipeE vs ρ) := fun vs => by
      induction vs with
      | nil => exact fun h _ => h
      | cons v vs ih =>
        intro Δ h hv
        have h1 := ih h fun w hw => hv w (List.mem_cons_of_mem _ hw)
        have h2 := h1.set v (s := .any) (o := none) trivial
        have e : Δ.set v .any = Δ := by
          apply List.ext_getElem?
          intro j
          by_cases hj : v = j
          · subst hj
            by_cases hl : v < Δ.length
            · rw [List.getElem?_set_self hl, hv v List.mem_cons_self hl]
            · rw [List.getElem?_eq_none (by simpa using Nat.le_of_not_lt hl), List.getElem?_eq_none (by simpa using Nat.le_of_not_lt hl)]
          · rw [List.getElem?_set_ne hj]
        rw [e] at h2
        exact h2
    refine this own h fun v hv hl => ?_
    have : ∀ (vs : List Nat), v ∈ vs → v < (wipeΓ vs Γ).length → (wipeΓ vs Γ)[v]? = some .any := fun vs => by
      induction vs with
      | nil => intro h; cases h
      | cons w vs ih =>
        intro hm hl
        show ((wipeΓ vs Γ).set w .any)[v]? = _
        have hl' : v < (wipeΓ vs Γ).length := by simpa [wipeΓ] using hl
        by_cases hw : w = v
        · subst hw; rw [List.getElem?_set_self hl']
        · rw [List.getElem?_set_ne hw]
          exact ih ((List.mem_cons.mp hm).resolve_left fun z => hw z.symm) hl'
    exact this own hv hl
theorem wipeΓ_len : ∀ (own : List Nat) (Γ : Gm), (wipeΓ own Γ).length = Γ.length
  | [], _ => rfl
  | v :: vs, Γ => by show ((wipeΓ vs Γ).set v .any).length = _; rw [List.length_set, wipeΓ_len vs Γ]
theorem wipeΓ_get : ∀ (own : List Nat) (Γ : Gm) (j : Nat), j ∉ own → (wipeΓ own Γ)[j]? = Γ[j]?
  | [], _, _, _ => rfl
  | v :: vs, Γ, j, h => by
    show ((wipeΓ vs Γ).set v .any)[j]? = _
    rw [List.getElem?_set_ne fun (z : v = j) => h (by rw [z]; exact List.mem_cons_self), wipeΓ_get vs Γ j fun z => h (List.mem_cons_of_mem _ z)]
theorem agr_iff : ∀ {Γ : Gm} {ρ : OEnv}, Agr Γ ρ ↔ ρ.length = Γ.length ∧ ∀ (i : Nat) (s : Sl) (o : Option D), Γ[i]? = some s → ρ[i]? = some o → s.ok o
  | [], [] => ⟨fun _ => ⟨rfl, fun i s o h _ => by simp at h⟩, fun _ => trivial⟩
  | s :: Γ, o :: ρ => by
    constructor
    · rintro ⟨h1, h2⟩
      obtain ⟨l, h⟩ := agr_iff.mp h2
      refine ⟨congrArg (· + 1) l, fun i t p e1 e2 => ?_⟩
      cases i with
      | zero => simp at e1 e2; subst e1; subst e2; exact h1
      | succ i => exact h i t p (by simpa using e1) (by simpa using e2)
    · rintro ⟨l, h⟩
      exact ⟨h 0 s o rfl rfl, agr_iff.mpr ⟨by simpa using l, fun i t p e1 e2 => h (i + 1) t p (by simpa using e1) (by simpa using e2)⟩⟩
  | [], _ :: _ => ⟨fun h => h.elim, fun h => by simp at h⟩
  | _ :: _, [] => ⟨fun h => h.elim, fun h => by simp at h⟩
theorem restE_len : ∀ (own : List Nat) (ρ0 ρ : OEnv), (restE own ρ0 ρ).length = ρ.length
  | [], _, _ => rfl
  | v :: vs, ρ0, ρ => by show (restE vs ρ0 (ρ.set v _)).length = _; rw [restE_len vs, List.length_set]
theorem restE_out : ∀ (own : List Nat) (ρ0 ρ : OEnv) (j : Nat), j ∉ own → (restE own ρ0 ρ)[j]? = ρ[j]?
  | [], _, _, _, _ => rfl
  | v :: vs, ρ0, ρ, j, h => by
    show (restE vs ρ0 (ρ.set v _))[j]? = _
    rw [restE_out vs _ _ j fun z => h (List.mem_cons_of_mem _ z), List.getElem?_set_ne fun (z : v = j) => h (by rw [z]; exact List.mem_cons_self)]
theorem restE_in : ∀ (own : List Nat) (ρ0 ρ : OEnv) (j : Nat), j ∈ own → j < ρ.length → (restE own ρ0 ρ)[j]? = some (ρ0.getD j none)
  | v :: vs, ρ0, ρ, j, h, hl => by
    show (restE vs ρ0 (ρ.set v _))[j]? = _
    by_cases hj : j ∈ vs
    · exact restE_in vs ρ0 _ j hj (by simpa using hl)
    · have e : j = v := (List.mem_cons.mp h).resolve_right hj
      subst e
      rw [restE_out vs _ _ j hj, List.getElem?_set_self hl]
theorem Agr.rest {own : List Nat} {Γ Γ0 : Gm} {ρ0 ρ : OEnv} (h0 : Agr Γ0 ρ0) (h : Agr (wipeΓ own Γ) ρ) (hs : ∀ v ∈ own, Γ[v]? = Γ0[v]?) (hl : Γ.length = Γ0.length) : Agr Γ (restE own ρ0 ρ) := by
  obtain ⟨l0, k0⟩ := agr_iff.mp h0
  obtain ⟨l, k⟩ := agr_iff.mp h
  rw [wipeΓ_len] at l
  refine agr_iff.mpr ⟨by rw [restE_len, l], fun i s o e1 e2 => ?_⟩
  by_cases hi : i ∈ own
  · have hlt : i < ρ.length := by rw [l]; exact (List.getElem?_eq_some_iff.mp e1).1
    rw [restE_in own ρ0 ρ i hi hlt] at e2
    cases e2
    rw [hs i hi] at e1
    have hlt0 : i < ρ0.length := by rw [l0, ← hl, ← l]; exact hlt
    refine k0 i s _ e1 ?_
    rw [List.getD_eq_getElem?_getD, List.getElem?_eq_getElem hlt0]; rfl
  · rw [restE_out own ρ0 ρ i hi] at e2
    refine k i s o ?_ e2
    rw [wipeΓ_get own Γ i hi]; exact e1
theorem lcL_R {own : List Nat} {mc : Mi Bool} {me : Mi D} {B : D → β → Re (Option D × β)} {Γ' : β → Gm} {ρ0 : OEnv} (hb : ∀ d b, J (cVM (fun b => wipeΓ own (Γ' b)) none) (lcB mt mc me d) (wipeΓ own (Γ' b)) (B d b)) :
    ∀ (ds : List D) (b : β) (acc : List D) (ρ : OEnv), Agr (wipeΓ own (Γ' b)) ρ → ∀ xs b', lcRM B ds b = .ok (xs, b') → ∃ ρ', lcL own ρ0 mt mc me acc ds ρ = .ok (.lst (acc ++ xs)) (restE own ρ0 ρ') ∧ Agr (wipeΓ own (Γ' b')) ρ'
  | [], b, acc, ρ, a, xs, b', e => by
    unfold lcRM at e
    cases e
    exact ⟨ρ, by rw [List.append_nil]; rfl, a⟩
  | d :: ds, b, acc, ρ, a, xs, b', e => by
    unfold lcRM at e
    have h := hb d b ρ a
    cases eB : B d b with
    | bad => rw [eB] at e; cases e
    | exc x => rw [eB] at e; cases e
    | ok r =>
      obtain ⟨r, b1⟩ := r
      rw [eB] at h e
      obtain ⟨ρ1, h1, h2⟩ := h
      unfold lcB setTm at h1
      cases et : mt d ρ with
      | none => rw [et] at h1; cases h1
      | some ρt =>
        rw [et] at h1
        simp only [bnd] at h1
        cases ec : mc ρt with
        | bad => rw [ec] at h1; cases h1
        | exc x ρc => rw [ec] at h1; cases h1
        | ok k ρc =>
          rw [ec] at h1
          cases k with
          | false =>
            simp only [Out.bind_ok, ifS] at h1
            cases h1
            obtain ⟨ρ', h3, h4⟩ := lcL_R hb ds b1 acc (wipeE own ρ1) (h2.wipe2 own) xs b' e
            exact ⟨ρ', by rw [lcL_out et ec]; exact h3, h4⟩
          | true =>
            simp only [Out.bind_ok, ifS, if_pos, bnd] at h1
            cases ee : me ρc with
            | bad => rw [ee] at h1; cases h1
            | exc x ρe => rw [ee] at h1; cases h1
            | ok x ρe =>
              rw [ee] at h1
              simp only [Out.bind_ok] at h1
              cases h1
              simp only at e
              cases er : lcRM B ds b1 with
              | bad => rw [er] at e; cases e
              | exc x => rw [er] at e; cases e
              | ok r =>
                rw [er] at e
                cases e
                obtain ⟨ρ', h3, h4⟩ := lcL_R hb ds b1 (acc ++ [x]) (wipeE own ρ1) (h2.wipe2 own) r.1 r.2 er
                refine ⟨ρ', ?_, h4⟩
                rw [lcL_in et ec ee, h3, List.append_assoc]
                rfl
theorem lcRM_exc {B : D → β → Re (Option D × β)} : ∀ (ds : List D) (b : β) (x : Xn), lcRM B ds b ≠ .exc x
  | [], b, x, e => by cases e
  | d :: ds, b, x, e => by
    unfold lcRM at e
    cases eB : B d b with
    | bad => rw [eB] at e; cases e
    | exc y => rw [eB] at e; cases e
    | ok r =>
      obtain ⟨r, b1⟩ := r
      rw [eB] at e
      cases r with
      | none => exact lcRM_exc ds b1 x e
      | some z =>
        simp only at e
        cases er : lcRM B ds b1 with
        | bad => rw [er] at e; cases e
        | exc y => exact lcRM_exc ds b1 y er
        | ok r => rw [er] at e; cases e
theorem j_lcM {own : List Nat} {mc : Mi Bool} {me : Mi D} {B : D → β → Re (Option D × β)} {Γ' : β → Gm} {b : β} {kd : D → Mi α} {R : List D × β → Re ω} (hb : ∀ d b, J (cVM (fun b => wipeΓ own (Γ' b)) none) (lcB mt mc me d) (wipeΓ own (Γ' b)) (B d b))
    (h0 : LeG Γ (Γ' b)) (hs : ∀ b, ∀ v ∈ own, (Γ' b)[v]? = Γ[v]?) (hl : ∀ b, (Γ' b).length = Γ.length) (hk : ∀ xs b, J C (kd (.lst xs)) (Γ' b) (R (xs, b))) : J C (bnd (lcM own mt mc me ds) kd) Γ ((lcGoM B ds b).bind R) := by
  intro ρ a
  unfold lcGoM
  show Fit C _ ((if ds.length ≤ 16777216 then lcL own ρ mt mc me [] ds (wipeE own ρ) else .bad).bind kd)
  by_cases hd : ds.length ≤ 16777216
  · rw [if_pos hd, if_pos hd]
    cases e : lcRM B ds b with
    | bad => exact trivial
    | exc x => exact absurd e (lcRM_exc ds b x)
    | ok r =>
      obtain ⟨xs, b'⟩ := r
      obtain ⟨ρ', h1, h2⟩ := lcL_R (ρ0 := ρ) hb ds b [] (wipeE own ρ) ((h0.ag a).wipe own) xs b' e
      rw [h1]
      rw [List.nil_append]
      exact hk xs b' _ (Agr.rest a h2 (hs b') (hl b'))
  · rw [if_neg hd]; exact trivial
def liftB (B : D → Re (Option D)) : D → Unit → Re (Option D × Unit) := fun d _ => (B d).bind fun r => .ok (r, ())
theorem lcRM_lift (B : D → Re (Option D)) : ∀ ds : List D, lcRM (liftB B) ds () = (lcR B ds).bind fun xs => .ok (xs, ())
  | [] => rfl
  | d :: ds => by
    unfold lcRM lcR liftB
    cases B d with
    | bad => rfl
    | exc x => rfl
    | ok r =>
      cases r with
      | none => exact lcRM_lift B ds
      | some x =>
        show (lcRM (liftB B) ds ()).bind _ = _
        rw [lcRM_lift B ds]
        cases lcR B ds <;> rfl
theorem j_lcP {own : List Nat} {mc : Mi Bool} {me : Mi D} {B : D → Re (Option D)} {kd : D → Mi α} {R : List D → Re ω} (hb : ∀ d, J (cV (wipeΓ own Γ) none) (lcB mt mc me d) (wipeΓ own Γ) (B d)) (hk : ∀ xs, J C (kd (.lst xs)) Γ (R xs)) : J C (bnd (lcM own mt mc me ds) kd) Γ ((lcGo B ds).bind R) := by
  have h := j_lcM (C := C) (own := own) (mc := mc) (me := me) (mt := mt) (ds := ds) (kd := kd) (B := liftB B) (Γ' := fun _ : Unit => Γ) (b := ()) (Γ := Γ) (R := fun p => R p.1) (fun d b => by
    intro ρ a
    have := hb d ρ a
    unfold liftB
    cases eB : B d with
    | bad => exact trivial
    | exc x => exact trivial
    | ok r => rw [eB] at this; exact this) (LeG.refl _) (fun _ _ _ => rfl) (fun _ => rfl) (fun xs _ => hk xs)
  have e : (lcGoM (liftB B) ds ()).bind (fun p => R p.1) = (lcGo B ds).bind R := by
    unfold lcGoM lcGo
    split
    · rw [lcRM_lift]; cases lcR B ds <;> rfl
    · rfl
  rw [e] at h
  exact h
theorem j_lcB {mc : Mi Bool} {me : Mi D} {d : D} {C : Cz (Option D) ω} (h : J C (setTm mt d (bnd mc fun k => ifS k (bnd me fun x => ret (some x)) (ret none))) Γ R) : J C (lcB mt mc me d) Γ R := h
theorem j_yes {kb : Bool → Mi α} (h : J C (kb true) Γ R) : J C (bnd tYesM kb) Γ R := h
theorem j_ifT {m n : Mi α} (h : J C m Γ R) : J C (ifS true m n) Γ R := h
end
end DM
/-! DmV: calls, changes of owned things, defs without slots. -/
namespace DM
open PySem PySem.Spec PyProof.Rows L2

def XOk (X : Option Gm) (Γ : Gm) : Prop := ∀ Γx, X = some Γx → LeG Γ Γx
theorem xok_some {Γ Γx : Gm} (h : LeG Γ Γx) : XOk (some Γx) Γ := fun _ e => by cases e; exact h
theorem xok_any {Γ : Gm} {n : Nat} (h : Γ.length = n) : XOk (some (anyG n)) Γ := xok_some (le_any h)
def LkV (o : FO) (r : Re D) : Prop := match r with
  | .ok d => ∃ ds, o = .ok d ds
  | .exc x => ∃ ds, o = .exc x ds
  | .bad => True
def Lk {γ : Type} (o : FO) (r : Re γ) (val : γ → D) (fs : γ → List D) (n : Nat) : Prop := match r with
  | .ok c => o = .ok (val c) (fs c)
  | .exc x => ∃ ds, o = .exc x ds ∧ ds.length = n
  | .bad => True
section
variable {α β γ ω ω1 : Type} {C : Cz α ω} {D0 : Cz Ctl ω} {Γ Γ1 Γ2 : Gm} {R : Re ω} {ma mb : Mi D} {ms mk : Mi (List D)} {kd : D → Mi α} {s t u : Ms}
def callM (m : Mf) (π : List Nat) (xs ys : List D) : Mi D := fun ρ => match m (perm .non π (xs ++ ys)) with
  | .ok d _ => .ok d ρ
  | .exc x _ => .exc x ρ
  | .bad => .bad
theorem j_eCall {m : Mf} {π : List Nat} (h : J C (bnd ms fun xs => bnd mk fun ys => bnd (callM m π xs ys) kd) Γ R) : J C (bnd (eCall m π ms mk) kd) Γ R := by
  unfold eCall; simp only [bnd_assoc]; exact h
theorem j_call {m : Mf} {π : List Nat} {xs ys as : List D} {r : Re D} {R : D → Re ω} (lk : LkV (m as) r) (hx : XOk C.X Γ) (hk : ∀ d, J C (kd d) Γ (R d)) (ha : perm .non π (xs ++ ys) = as := by rfl) : J C (bnd (callM m π xs ys) kd) Γ (r.bind R) := by
  intro ρ a
  unfold callM bnd
  rw [ha]
  cases r with
  | bad => exact trivial
  | exc x =>
    obtain ⟨ds, e⟩ := lk
    rw [e]
    show Fit C (.exc x) (.exc x ρ)
    unfold Fit
    cases e : C.X with
    | none => trivial
    | some Γx => exact ⟨ρ, rfl, (hx Γx e).ag a⟩
  | ok d =>
    obtain ⟨ds, e⟩ := lk
    rw [e]
    exact hk d ρ a
/-! owned arguments -/
def fetchG : List Ag → Gm → Option (List D × Gm)
  | [], Γ => some ([], Γ)
  | .inl d :: xs, Γ => (fetchG xs Γ).map fun r => (d :: r.1, r.2)
  | .inr i :: xs, Γ => match Γ[i]? with
    | some (.is d) => (fetchG xs (Γ.set i .no)).map fun r => (d :: r.1, r.2)
    | _ => none
def putG : List Ag → List D → Gm → Option Gm
  | [], [], Γ => some Γ
  | .inl _ :: xs, _ :: ds, Γ => putG xs ds Γ
  | .inr i :: xs, d :: ds, Γ => match Γ[i]? with
    | some .no => putG xs ds (Γ.set i (.is d))
    | _ => none
  | _, _, _ => none
def putH : List Ag → Gm → Option Gm
  | [], Γ => some Γ
  | .inl _ :: xs, Γ => putH xs Γ
  | .inr i :: xs, Γ => match Γ[i]? with
    | some .no => putH xs (Γ.set i .has)
    | _ => none
theorem fetch_of : ∀ {xs : List Ag} {Γ : Gm} {ρ : OEnv} {ds Γ1}, Agr Γ ρ → fetchG xs Γ = some (ds, Γ1) → ∃ ρ1, fetch xs ρ = some (ds, ρ1) ∧ Agr Γ1 ρ1
  | [], Γ, ρ, ds, Γ1, a, e => by cases e; exact ⟨ρ, rfl, a⟩
  | .inl d :: xs, Γ, ρ, ds, Γ1, a, e => by
    obtain ⟨⟨ds', Γ'⟩, h1, h2⟩ := Option.map_eq_some_iff.mp e
    cases h2
    obtain ⟨ρ1, e1, a1⟩ := fetch_of a h1
    exact ⟨ρ1, by show (fetch xs ρ).map _ = _; rw [e1]; rfl, a1⟩
  | .inr i :: xs, Γ, ρ, ds, Γ1, a, e => by
    unfold fetchG at e
    split at e
    · rename_i d ed
      obtain ⟨⟨ds', Γ'⟩, h1, h2⟩ := Option.map_eq_some_iff.mp e
      cases h2
      obtain ⟨ρ1, e1, a1⟩ := fetch_of (a.set i (s := .no) (o := none) rfl) h1
      refine ⟨ρ1, ?_, a1⟩
      unfold fetch
      rw [a.is ed]
      simp only
      rw [e1]; rfl
    · cases e
theorem put_of : ∀ {xs : List Ag} {Γ : Gm} {ρ : OEnv} {ds Γ1}, Agr Γ ρ → putG xs ds Γ = some Γ1 → ∃ ρ1, putBack xs ds ρ = some ρ1 ∧ Agr Γ1 ρ1
  | [], Γ, ρ, ds, Γ1, a, e => by
    cases ds with
    | nil => cases e; exact ⟨ρ, rfl, a⟩
    | cons d ds => cases e
  | .inl d :: xs, Γ, ρ, ds, Γ1, a, e => by
    cases ds with
    | nil => cases e
    | cons d ds => exact put_of (xs := xs) a e
  | .inr i :: xs, Γ, ρ, ds, Γ1, a, e => by
    cases ds with
    | nil => cases e
    | cons d ds =>
      unfold putG at e
      split at e
      · rename_i ei
        obtain ⟨o, h1, h2⟩ := a.get ei
        obtain ⟨ρ1, e1, a1⟩ := put_of (a.set i (s := .is d) (o := some d) rfl) e
        refine ⟨ρ1, ?_, a1⟩
        unfold putBack
        rw [h1, show o = none from h2]
        exact e1
      · cases e
theorem putH_of : ∀ {xs : List Ag} {Γ : Gm} {ρ : OEnv} {ds : List D} {Γ1}, Agr Γ ρ → ds.length = xs.length → putH xs Γ = some Γ1 → ∃ ρ1, putBack xs ds ρ = some ρ1 ∧ Agr Γ1 ρ1
  | [], Γ, ρ, ds, Γ1, a, hl, e => by
    cases ds with
    | nil => cases e; exact ⟨ρ, rfl, a⟩
    | cons d ds => simp at hl
  | .inl d :: xs, Γ, ρ, ds, Γ1, a, hl, e => by
    cases ds with
    | nil => simp at hl
    | cons d ds => exact putH_of (xs := xs) a (by simpa using hl) e
  | .inr i :: xs, Γ, ρ, ds, Γ1, a, hl, e => by
    cases ds with
    | nil => simp at hl
    | cons d ds =>
      unfold putH at e
      split at e
      · rename_i ei
        obtain ⟨o, h1, h2⟩ := a.get ei
        obtain ⟨ρ1, e1, a1⟩ := putH_of (ds := ds) (a.set i (s := .has) (o := some d) (fun z => nomatch z)) (by simpa using hl) e
        refine ⟨ρ1, ?_, a1⟩
        unfold putBack
        rw [h1, show o = none from h2]
        exact e1
      · cases e
theorem j_eCallG {m : Mf} {mg : Mi (List Ag)} (h : J C (bnd mg fun xs => bnd (callOut m xs) kd) Γ R) : J C (bnd (eCallG m mg) kd) Γ R := by
  unfold eCallG; simp only [bnd_assoc]; exact h
variable {kg : List Ag → Mi α} {mg : Mi (List Ag)}
theorem j_gNil0 (h : J C (kg []) Γ R) : J C (bnd DM.gNil kg) Γ R := h
theorem j_gVal (h : J C (bnd ma fun x => bnd mg fun xs => kg (.inl x :: xs)) Γ R) : J C (bnd (gVal ma mg) kg) Γ R := by
  unfold gVal; simp only [bnd_assoc]; exact h
theorem j_gOwn {i : Nat} {d : D} (hi : Γ[i]? = some (.is d)) (h : J C (bnd mg fun xs => kg (.inr i :: xs)) Γ R) : J C (bnd (gOwn i mg) kg) Γ R := by
  intro ρ a
  have e : bnd (gOwn i mg) kg ρ = bnd mg (fun xs => kg (.inr i :: xs)) ρ := by
    show (gOwn i mg ρ).bind kg = (mg ρ).bind fun xs => kg (.inr i :: xs)
    unfold gOwn
    rw [a.is hi]
    exact out_assoc _ _ _
  rw [e]
  exact h ρ a
theorem j_callG {m : Mf} {xs : List Ag} {as : List D} {r : Re γ} {val : γ → D} {fs : γ → List D} {n : Nat} {Γ' : γ → Gm} {R : γ → Re ω} (lk : Lk (m as) r val fs n) (hf : fetchG xs Γ = some (as, Γ1)) (hp : ∀ c, putG xs (fs c) Γ1 = some (Γ' c)) (hn : n = xs.length) (hh : putH xs Γ1 = some Γ2) (hx : XOk C.X Γ2)
    (hk : ∀ c, J C (kd (val c)) (Γ' c) (R c)) : J C (bnd (callOut m xs) kd) Γ (r.bind R) := by
  intro ρ a
  obtain ⟨ρ1, e1, a1⟩ := fetch_of a hf
  unfold callOut bnd
  simp only [e1]
  cases r with
  | bad => exact trivial
  | exc x =>
    obtain ⟨ds, e, hl⟩ := lk
    obtain ⟨ρ2, e2, a2⟩ := putH_of (ds := ds) a1 (hl.trans hn) hh
    simp only [e, e2]
    show Fit C (.exc x) (.exc x ρ2)
    unfold Fit
    cases e : C.X with
    | none => trivial
    | some Γx => exact ⟨ρ2, rfl, (hx Γx e).ag a2⟩
  | ok c =>
    have e : m as = .ok (val c) (fs c) := lk
    obtain ⟨ρ2, e2, a2⟩ := put_of a1 (hp c)
    simp only [e, e2]
    exact hk c ρ2 a2
/-! a list's methods -/
def mutD (f : List D → List D → Option (D × List D)) (x : D) (es : List D) : Option (D × D) := match x with
  | .lst ds => (f ds es).map fun p => (p.1, .lst p.2)
  | _ => none
@[simp] theorem mutD_l (f) (ds es : List D) : mutD f (.lst ds) es = (f ds es).map fun p => (p.1, .lst p.2) := rfl
theorem mutM_run {i : Nat} {f} {es : List D} {x : D} {R : D × D → Re ω} (hi : Γ[i]? = some (.is x)) (hk : ∀ p, J C (kd p.1) (Γ.set i (.is p.2)) (R p)) : J C (bnd (fun ρ1 => match ρ1[i]? with
    | some (some (.lst ds)) => (match f ds es with
      | some (d, ds') => .ok d (ρ1.set i (some (.lst ds')))
      | none => .bad)
    | _ => .bad) kd) Γ (.ofO (mutD f x es) R) := by
  intro ρ a
  unfold bnd
  simp only [a.is hi]
  unfold mutD
  cases x with
  | lst ds =>
    simp only
    cases e : f ds es with
    | none => exact trivial
    | some p => exact hk (p.1, .lst p.2) _ (a.set i rfl)
  | _ => exact trivial
theorem j_mut {i : Nat} {f} {x : D} (hi : Γ[i]? = some (.is x)) (h : J C (bnd ms fun es => bnd (fun ρ1 => match ρ1[i]? with
    | some (some (.lst ds)) => (match f ds es with
      | some (d, ds') => .ok d (ρ1.set i (some (.lst ds')))
      | none => .bad)
    | _ => .bad) kd) Γ R) : J C (bnd (eMut i f ms) kd) Γ R := by
  intro ρ a
  have e : bnd (eMut i f ms) kd ρ = bnd ms (fun es => bnd (fun ρ1 => match ρ1[i]? with
    | some (some (.lst ds)) => (match f ds es with
      | some (d, ds') => .ok d (ρ1.set i (some (.lst ds')))
      | none => .bad)
    | _ => .bad) kd) ρ := by
    show (eMut i f ms ρ).bind kd = _
    unfold eMut
    rw [a.is hi]
    exact out_assoc _ _ _
  rw [e]
  exact h ρ a
end
/-! defs -/
section
variable {γ : Type} {m : Ms}
theorem fin_fz : ∀ {sh : List Sh} {ds : List D} {ρ : OEnv}, sh.all isFz = true → sh.length = ds.length → ds.length ≤ ρ.length → fin sh ds ρ = some ds
  | [], [], _, _, _, _ => rfl
  | s :: sh, d :: ds, o :: ρ, h, hl, hr => by
    have h' := Bool.and_eq_true_iff.mp h
    cases s with
    | fz =>
      show (fin sh ds ρ).map (d :: ·) = _
      rw [fin_fz h'.2 (by simpa using hl) (by simpa using hr)]; rfl
    | _ => exact absurd h'.1 (by simp [isFz])
  | [], _ :: _, _, _, h, _ => by simp at h
  | _ :: _, [], _, _, h, _ => by simp at h
  | _ :: _, _ :: _, [], _, _, h => by simp at h
def cFn (n : Nat) : Cz Ctl D := cTop (fun d => (d, anyG n)) (anyG n)
theorem lkv_of {n : Nat} {sh : List Sh} {ds : List D} {Γ0 : Gm} {R : Re D} (h : J (cFn n) m Γ0 R) (h0 : Agr Γ0 (ds.map some ++ List.replicate (n - ds.length) none)) (hz : sh.all isFz = true) (hl : sh.length = ds.length) (hn : ds.length ≤ n) : LkV (mfOf n sh .fz m ds) R := by
  have := h _ h0
  unfold mfOf
  have lenA : ∀ ρ, Agr (anyG n) ρ → ds.length ≤ ρ.length := fun ρ a => by rw [a.len, anyG, List.length_replicate]; exact hn
  cases R with
  | bad => exact trivial
  | exc x =>
    obtain ⟨ρ', e, a⟩ := this
    rw [e]
    simp only [fin_fz hz hl (lenA ρ' a)]
    exact ⟨ds, rfl⟩
  | ok d =>
    obtain ⟨ρ', e, a⟩ := this
    rcases e with e | ⟨e0, e⟩
    · rw [e]
      simp only [fin_fz hz hl (lenA ρ' a)]
      exact ⟨ds, rfl⟩
    · rw [e]
      have e0 : d = .non := e0
      simp only [fin_fz hz hl (lenA ρ' a), isFz, if_pos]
      rw [e0]
      exact ⟨ds, rfl⟩
def finG : List Sh → List D → Gm → Option (List D)
  | [], [], _ => some []
  | .fz :: sh, d :: ds, _ :: Γ => (finG sh ds Γ).map (d :: ·)
  | .lst _ :: sh, _ :: ds, .is d :: Γ => (finG sh ds Γ).map (d :: ·)
  | .dct _ :: sh, _ :: ds, .is d :: Γ => (finG sh ds Γ).map (d :: ·)
  | _, _, _ => none
def finH : List Sh → List D → Gm → Bool
  | [], [], _ => true
  | .fz :: sh, _ :: ds, _ :: Γ => finH sh ds Γ
  | .lst _ :: sh, _ :: ds, .has :: Γ => finH sh ds Γ
  | .dct _ :: sh, _ :: ds, .has :: Γ => finH sh ds Γ
  | _, _, _ => false
theorem fin_of : ∀ {sh : List Sh} {ds : List D} {Γ : Gm} {ρ : OEnv} {fs}, Agr Γ ρ → finG sh ds Γ = some fs → fin sh ds ρ = some fs
  | [], ds, Γ, ρ, fs, a, e => by
    cases ds with
    | nil => cases e; rfl
    | cons d ds => cases e
  | s :: sh, [], Γ, ρ, fs, a, e => by cases s <;> cases e
  | s :: sh, d :: ds, [], ρ, fs, a, e => by cases s <;> cases e
  | s :: sh, d :: ds, g :: Γ, ρ, fs, a, e => by
    cases ρ with
    | nil => exact a.elim
    | cons o ρ =>
      obtain ⟨a1, a2⟩ := a
      cases s with
      | fz =>
        obtain ⟨fs', h1, h2⟩ := Option.map_eq_some_iff.mp (show (finG sh ds Γ).map (d :: ·) = some fs from e)
        show (fin sh ds ρ).map (d :: ·) = _
        rw [fin_of a2 h1, ← h2]; rfl
      | lst s =>
        cases g with
        | is d' =>
          obtain ⟨fs', h1, h2⟩ := Option.map_eq_some_iff.mp (show (finG sh ds Γ).map (d' :: ·) = some fs from e)
          have a1 : o = some d' := a1
          subst a1
          show (fin sh ds ρ).map (d' :: ·) = _
          rw [fin_of a2 h1, ← h2]; rfl
        | _ => cases e
      | dct s =>
        cases g with
        | is d' =>
          obtain ⟨fs', h1, h2⟩ := Option.map_eq_some_iff.mp (show (finG sh ds Γ).map (d' :: ·) = some fs from e)
          have a1 : o = some d' := a1
          subst a1
          show (fin sh ds ρ).map (d' :: ·) = _
          rw [fin_of a2 h1, ← h2]; rfl
        | _ => cases e
      | _ => cases e
theorem fin_has : ∀ {sh : List Sh} {ds : List D} {Γ : Gm} {ρ : OEnv}, Agr Γ ρ → finH sh ds Γ = true → ∃ fs, fin sh ds ρ = some fs ∧ fs.length = ds.length
  | [], ds, Γ, ρ, a, e => by
    cases ds with
    | nil => exact ⟨[], rfl, rfl⟩
    | cons d ds => cases e
  | s :: sh, [], Γ, ρ, a, e => by cases s <;> cases e
  | s :: sh, d :: ds, [], ρ, a, e => by cases s <;> cases e
  | s :: sh, d :: ds, g :: Γ, ρ, a, e => by
    cases ρ with
    | nil => exact a.elim
    | cons o ρ =>
      obtain ⟨a1, a2⟩ := a
      cases s with
      | fz =>
        obtain ⟨fs, h1, h2⟩ := fin_has (sh := sh) (ds := ds) a2 e
        exact ⟨d :: fs, by show (fin sh ds ρ).map (d :: ·) = _; rw [h1]; rfl, by simp [h2]⟩
      | lst s =>
        cases g with
        | has =>
          obtain ⟨fs, h1, h2⟩ := fin_has (sh := sh) (ds := ds) a2 e
          cases o with
          | none => exact absurd rfl a1
          | some d' => exact ⟨d' :: fs, by show (fin sh ds ρ).map (d' :: ·) = _; rw [h1]; rfl, by simp [h2]⟩
        | _ => cases e
      | dct s =>
        cases g with
        | has =>
          obtain ⟨fs, h1, h2⟩ := fin_has (sh := sh) (ds := ds) a2 e
          cases o with
          | none => exact absurd rfl a1
          | some d' => exact ⟨d' :: fs, by show (fin sh ds ρ).map (d' :: ·) = _; rw [h1]; rfl, by simp [h2]⟩
        | _ => cases e
      | _ => cases e
theorem lk_of {n : Nat} {sh : List Sh} {ds : List D} {Γ0 Γx : Gm} {R : Re γ} {val : γ → D} {Γr : γ → Gm} {fs : γ → List D} (h : J (cTop (fun c => (val c, Γr c)) Γx) m Γ0 R) (h0 : Agr Γ0 (ds.map some ++ List.replicate (n - ds.length) none)) (hf : ∀ c, finG sh ds (Γr c) = some (fs c)) (hx : finH sh ds Γx = true) :
    Lk (mfOf n sh .fz m ds) R val fs ds.length := by
  have := h _ h0
  unfold mfOf
  cases R with
  | bad => exact trivial
  | exc x =>
    obtain ⟨ρ', e, a⟩ := this
    rw [e]
    obtain ⟨fs, h1, h2⟩ := fin_has a hx
    simp only [h1]
    exact ⟨fs, rfl, h2⟩
  | ok c =>
    obtain ⟨ρ', e, a⟩ := this
    have h1 := fin_of a (hf c)
    rcases e with e | ⟨e0, e⟩
    · rw [e]
      simp only [h1]
      rfl
    · rw [e]
      have e0 : val c = .non := e0
      simp only [h1, isFz, if_pos]
      show _ = _
      rw [e0]
end
/-! short forms -/
def Re.chain (o : Option Bool) (r : Re Bool) : Re Bool := Re.ofO o fun k => if k = true then r else .ok false
def Re.cond {α : Type} (rc : Re Bool) (r s : Re α) : Re α := rc.bind fun k => if k = true then r else s
@[simp] theorem Re.chain_true (r : Re Bool) : Re.chain (some true) r = r := rfl
@[simp] theorem Re.chain_false (r : Re Bool) : Re.chain (some false) r = .ok false := rfl
@[simp] theorem Re.cond_true {α : Type} (r s : Re α) : Re.cond (.ok true) r s = r := rfl
@[simp] theorem Re.cond_false {α : Type} (r s : Re α) : Re.cond (.ok false) r s = s := rfl
theorem blt {i n : Nat} (h : Nat.blt i n = true) : i < n := by simpa [Nat.blt_eq] using h
theorem ble {i n : Nat} (h : Nat.ble i n = true) : i ≤ n := Nat.le_of_ble_eq_true h
theorem agr_nil : Agr [] [] := trivial
theorem agr_is {d : D} {Γ ρ} (h : Agr Γ ρ) : Agr (.is d :: Γ) (some d :: ρ) := ⟨rfl, h⟩
theorem agr_any {o : Option D} {Γ ρ} (h : Agr Γ ρ) : Agr (.any :: Γ) (o :: ρ) := ⟨trivial, h⟩
section
variable {α ω : Type} {C : Cz α ω} {Γ : Gm} {R : Re ω} {ma mb mc : Mi D} {kd : D → Mi α} {kb : Bool → Mi α}
theorem j_iZipB {st : Bool} {ms : Mi (List D)} {kl : List D → Mi α} (h : J C (bnd ms fun xs => bnd (lift (zipB st xs)) kl) Γ R) : J C (bnd (iZipBM st ms) kl) Γ R := by
  unfold iZipBM; simp only [bnd_assoc]; exact h
theorem j_ichn2 {o : Option Bool} {m : Mi Bool} {r : Re Bool} {Rk : Bool → Re ω} (hm : J (cV Γ C.X) m Γ r) (hk : ∀ b, J C (kb b) Γ (Rk b)) :
    J C (bnd (bnd (lift o) fun k => ifS k m (ret false)) kb) Γ ((Re.chain o r).bind Rk) :=
  j_sub (C := C) (j_lift (C := cV Γ C.X) fun k => j_ite hm (j_val (LeG.refl _))) hk
theorem j_chain2 {f g} (h : J C (bnd ma fun x => bnd mb fun y => bnd (bnd (lift (f x y)) fun k => ifS k (bnd mc fun z => lift (g y z)) (ret false)) fun b => kd (.bl b)) Γ R) : J C (bnd (eChain f g ma mb mc) kd) Γ R :=
  j_chain (r := fun _ _ => .bad) (Rk := fun _ => .bad) (R0 := fun _ => .bad) h
theorem j_tchn2 {f g} (h : J C (bnd ma fun x => bnd mb fun y => bnd (bnd (lift (f x y)) fun k => ifS k (bnd mc fun z => lift (g y z)) (ret false)) kb) Γ R) : J C (bnd (tChn f g ma mb mc) kb) Γ R := j_tchn h
theorem j_eif2 {c : Mi Bool} {rc : Re Bool} {r s : Re D} {Rk : D → Re ω} (hc : J (cV Γ C.X) c Γ rc) (h1 : J (cV Γ C.X) ma Γ r) (h2 : J (cV Γ C.X) mb Γ s) (hk : ∀ b, J C (kd b) Γ (Rk b)) :
    J C (bnd (eIf c ma mb) kd) Γ ((Re.cond rc r s).bind Rk) := j_eif hc h1 h2 hk
/-! the same, the slots behind it written out -/
theorem j_setIL {D0 : Cz Ctl ω} {t : Ms} {i : Nat} {d : D} (Γ' : Gm) (hi : Nat.blt i Γ.length = true) (e : Γ.set i (.is d) = Γ') (h : J D0 t Γ' R) : J D0 (sSeq (setI i d) t) Γ R := j_setI (blt hi) (e ▸ h)
theorem j_setAL {D0 : Cz Ctl ω} {t : Ms} {i : Nat} {is : List Nat} {d : D} {ds : List D} (Γ' : Gm) (hi : Nat.blt i Γ.length = true) (e : Γ.set i (.is d) = Γ') (h : J D0 (sSeq (setA is ds) t) Γ' R) : J D0 (sSeq (setA (i :: is) (d :: ds)) t) Γ R := j_setA (blt hi) (e ▸ h)
theorem j_gNmL {m : Mi α} {i : Nat} {d : D} (Γ' : Gm) (hi : Nat.blt i Γ.length = true) (e : Γ.set i (.is d) = Γ') (h : J C m Γ' R) : J C (setTm (gNm i) d m) Γ R := j_gNm (blt hi) (e ▸ h)
theorem mutM_runL {i : Nat} {f} {es : List D} {x : D} {R : D × D → Re ω} (Γ' : D × D → Gm) (hi : Γ[i]? = some (.is x)) (e : ∀ p, Γ.set i (.is p.2) = Γ' p) (hk : ∀ p, J C (kd p.1) (Γ' p) (R p)) : J C (bnd (fun ρ1 => match ρ1[i]? with
    | some (some (.lst ds)) => (match f ds es with
      | some (d, ds') => .ok d (ρ1.set i (some (.lst ds')))
      | none => .bad)
    | _ => .bad) kd) Γ (.ofO (mutD f x es) R) := mutM_run hi fun p => (e p) ▸ hk p
theorem j_gsetL {m : Mi α} {i : Nat} {mi : Mi D} {d x ix : D} {R : D → Re ω} (Γ' : D → Gm) (hx : Γ[i]? = some (.is x)) (hi : J (cV Γ none) mi Γ (.ok ix)) (e : ∀ z, Γ.set i (.is z) = Γ' z) (h : ∀ z, J C m (Γ' z) (R z)) : J C (setTm (gSet i mi) d m) Γ (.ofO (setD x ix d) R) := j_gset hx hi fun z => (e z) ▸ h z
end
end DM
/-! DmY: try, raise; exceptions as values. -/
namespace DM
open PySem PySem.Spec PyProof.Rows L2

/-! ### the clause's test -/
section
variable {X : Cx} {x x1 x2 x3 : Str} {c c1 c2 c3 : Value} {np p1 p2 p3 tpos : Pos} {kk}
end

/-! ### the exception is tracked -/
section
variable {X : Cx} {pins : List (Addr × Obj)} {σ : L2.St} {H : Hp} {sI s s' : Shared} {B : Heap}
end

section
variable {X : Cx} {n : Str} {cvs : List Value} {i : Nat} {body suite : List Stmt} {b₀ : Stmt} {test : Expr} {pos pos' : Pos} {Wout : WX}
end
end DM
/-! DmZ: try, raise, isinstance of an exception: the judgements. -/
namespace DM
open PySem PySem.Spec PyProof.Rows L2
variable [LamT]

/-! ### a slot goes -/
theorem EnvR.clr {K : PySem.W.Frag} {F : FS} {H : Hp} : ∀ {G : List Sh} {σ : L2.St} {ρ : Env} {A : List Addr} (i : Nat), EnvR K F H G σ ρ A → ∃ A', EnvR K F H G (σ.set i none) (ρ.set i none) A' ∧ A'.Sublist A
  | [], [], [], A, i, h => ⟨A, by simpa using h, List.Sublist.refl _⟩
  | g :: G, x :: σ, none :: ρ, A, 0, h => ⟨A, by simpa only [List.set, EnvR] using h, List.Sublist.refl _⟩
  | g :: G, x :: σ, none :: ρ, A, i + 1, h => by
    obtain ⟨A', a, b⟩ := EnvR.clr (A := A) i (show EnvR K F H G σ ρ A from by simpa only [EnvR] using h)
    exact ⟨A', by simpa only [List.set, EnvR] using a, b⟩
  | g :: G, some v :: σ, some d :: ρ, A, 0, ⟨A1, A2, h1, h2, e⟩ => ⟨A2, by simpa only [List.set, EnvR] using h2, by rw [e]; exact List.sublist_append_right A1 A2⟩
  | g :: G, some v :: σ, some d :: ρ, A, i + 1, ⟨A1, A2, h1, h2, e⟩ => by
    obtain ⟨A', a, b⟩ := EnvR.clr i h2
    exact ⟨A1 ++ A', ⟨A1, A', h1, a, rfl⟩, by rw [e]; exact List.Sublist.append_left b A1⟩
  | [], [], _ :: _, _, _, h => by simp [EnvR] at h
  | [], _ :: _, _, _, _, h => by simp [EnvR] at h
  | _ :: _, [], _, _, _, h => by simp [EnvR] at h
  | _ :: _, _ :: _, [], _, _, h => by simp [EnvR] at h
  | _ :: _, none :: _, some _ :: _, _, _, h => by simp [EnvR] at h

/-! ### exceptions as data -/
theorem FsR.rpf {K : PySem.W.Frag} {F : FS} {H : Hp} : ∀ {vs : List (Str × V)} {fs : List (Str × D)}, FsR K F H vs fs → RpF K F H vs fs
  | [], [], _ => .nil
  | (n, v) :: vs, (m, d) :: ds, ⟨a, b, c⟩ => by cases (show n = m from a); exact .cons b (FsR.rpf c)
  | [], _ :: _, h => h.elim
  | _ :: _, [], h => h.elim
theorem XR.rp {K : PySem.W.Frag} {mg : Str → Option Value} {F : FS} {H : Hp} {x : Xn} {cls : Value} {dd : Option Addr} {a : Addr} (h : XR K mg F H x cls dd) (hm : mg x.c = some (.ref (He.ga K x.c))) (fa : F a) (ha : H a = some (.ext (exφ a cls dd))) : Rp K F H (.ref a) (.ex x.c x.fs) := by
  obtain ⟨h1, h2⟩ := h
  have e : cls = .ref (He.ga K x.c) := Option.some.inj (h1.symm.trans hm)
  subst e
  obtain ⟨c, fs⟩ := x
  cases fs with
  | nil => exact .ex (vs := []) fa (.inl ha) (fun d e => by cases (show dd = none from h2); cases e) ⟨fun _ => rfl, fun _ => h2⟩ .nil
  | cons q r =>
    obtain ⟨d, vs, rfl, fd, rd, r⟩ := h2
    exact .ex (vs := vs) fa (.inl ha) (fun d' e => by cases e; exact ⟨fd, rd⟩) ⟨fun e => (nomatch e), fun e => (nomatch e)⟩ r.rpf

/-! ### try -/
def clr (i : Nat) : Out Ctl → Out Ctl
  | .ok c ρ => .ok c (ρ.set i none)
  | _ => .bad
abbrev SC.ex (C : SC) (Gh : List Sh) : SC := { C with Gx := Gh }
section
variable {X : Cx} {W : WX} {C : SC} {G G' Gh : List Sh} {n : Str} {cvs : List Value} {i : Nat} {body suite : List Stmt} {b₀ : Stmt} {test : Expr} {pos pos' : Pos} {hit : Str → Option Bool} {mb ms : Ms}
end

/-! ### raise -/
def sRaise (c : Str) : Ms := fun ρ => .exc ⟨c, []⟩ ρ
/-- a class of exceptions without an own __init__ -/
structure ExO (X : Cx) (c : Str) : Prop where
  mg : X.mg c = some (.ref (He.ga X.K c))
  kp : PySem.W.keepIn X.K (.ref (He.ga X.K c)) = true
  rs : Raises X (.ref (He.ga X.K c))
  how : ∃ bmB B newId initId, ExcBaseFacts B newId initId bmB ∧ PySem.W.excIn X.K (He.ga X.K c) bmB newId = true
section
variable {X : Cx} {W : WX} {C : SC} {G G' : List Sh} {c m : Str} {j : Nat} {p p2 pos pos' : Pos}
theorem ds_raise {j} (q : ExO X c) (hc : X.calm = true) (tk : Takes X W) (wx : Wk G C.Gx) (hg : Gl X c) (hdb : (c == ("__debug__" : Str)) = false := by decide) : DS X W C G (.Raise (some (.Call (.Name c p) [.Constant (.str m) j p2] [] pos)) none pos') (sRaise c) G' := by
  obtain ⟨bmB, B, newId, initId, F, qi⟩ := q.how
  refine ⟨_, ps_raise hc tk (pmk_own F qi q.mg q.kp q.rs hg hdb), fun F H A σ ρ E wf en hp => ?_⟩
  obtain ⟨A2, en2, sb⟩ := en.weak wx
  exact hp _ none σ H F A2 (Stp.sub .refl sb) (wf.sub sb) en2 ⟨q.mg, rfl⟩
end

/-! ### isinstance of an exception -/
section
variable {X : Cx} {W : WX} {p : Bool} {G : List Sh} {e : Expr} {x x1 x2 x3 x4 x5 : Str} {c : Value} {hit : Str → Option Bool} {m : Mi D} {q q0 q1 q2 q3 q4 q5 pos tpos : Pos} {kk}
end
end DM
namespace DM
open PySem PySem.Spec PyProof.Rows L2
variable [LamT]
section
variable {X : Cx} {W : WX} {p : Bool} {G : List Sh} {e : Expr} {es : List Expr} {x : Str} {hit : Str → Option Bool} {m : Mi D} {q q0 pos tpos : Pos} {kk} {cl : V} {cv : Value} {cls : List V} {cvs : List Value}
/-- names of classes -/
inductive PNs (X : Cx) : List Expr → List V → List Value → Prop
  | nil : PNs X [] [] []
  | cons {x : Str} {q : Pos} {es cl cls cv cvs} (h : PE X (.Name x q) (tC cl)) (hcv : ∀ u, RelV cl u → u = cv) (r : PNs X es cls cvs) : PNs X (.Name x q :: es) (cl :: cls) (cv :: cvs)
theorem PNs.pa : ∀ {es cls cvs}, PNs X es cls cvs → ∃ t, PA X es t ∧ ∀ (σ : L2.St) (H : Hp) (Q : List V → Hp → Prop), Q cls H → t σ H Q
  | _, _, _, .nil => ⟨_, pa_nil, fun _ _ _ h => h⟩
  | _, _, _, .cons h hcv r => by
    obtain ⟨t, pe, l⟩ := PNs.pa r
    exact ⟨_, pa_cons h pe, fun σ H Q q => l σ H _ q⟩
theorem PNs.vals : ∀ {es cls cvs}, PNs X es cls cvs → ∀ us, Vals cls us → us = cvs
  | _, _, _, .nil, us, h => by cases h; rfl
  | _, _, _, .cons h hcv r, us, h' => by
    cases h' with
    | cons a b => rw [hcv _ a, PNs.vals r _ b]
theorem PNs.len : ∀ {es cls cvs}, PNs X es cls cvs → cls.length = es.length
  | _, _, _, .nil => rfl
  | _, _, _, .cons _ _ r => congrArg (· + 1) (PNs.len r)
end

/-! ### what the top tells of classes -/
def mkB : Nat → List Value × String × String × String
  | 0 => ([.type "ValueError", .type "Exception", .type "BaseException", .type "object"], "ValueError", "ValueError.__new__", "ValueError.__init__")
  | _ => ([.type "OverflowError", .type "ArithmeticError", .type "Exception", .type "BaseException", .type "object"], "OverflowError", "OverflowError.__new__", "OverflowError.__init__")
def mkCk (c : Str) (k : Nat) (K : PySem.W.Frag) : Bool :=
  PySem.W.excIn K (He.ga K c) (mkB k).1 (mkB k).2.2.1 && (PySem.W.keepIn K (.ref (He.ga K c)) && (decide (PySem.W.subIn K (.ref (He.ga K c)) (.type "BaseException") = some true) && decide (PySem.W.typeIn K (.ref (He.ga K c)) = some (.type "type"))))
theorem mkB_ok (k : Nat) : ExcBaseFacts (mkB k).2.1 (mkB k).2.2.1 (mkB k).2.2.2 (mkB k).1 := by
  cases k with
  | zero => exact PySem.F.excBase_ValueError
  | succ k => exact PySem.F.excBase_OverflowError
theorem exO_of {X : Cx} {c : Str} {k : Nat} (mg : X.mg c = some (.ref (He.ga X.K c))) (h : mkCk c k X.K = true) : ExO X c := by
  obtain ⟨h1, h⟩ := He.ba h
  obtain ⟨h2, h⟩ := He.ba h
  obtain ⟨h3, h4⟩ := He.ba h
  exact ⟨mg, h2, raises_own (of_decide_eq_true h3) (of_decide_eq_true h4), _, _, _, _, mkB_ok k, h1⟩
def xAll (l : List (PySem.W.Frag → Bool)) (K : PySem.W.Frag) : Bool := l.all fun f => f K
theorem xAll.fact {l : List (PySem.W.Frag → Bool)} {K : PySem.W.Frag} (h : xAll l K = true) (i : Nat) {f : PySem.W.Frag → Bool} (e : l[i]? = some f := by rfl) : f K = true := List.all_eq_true.mp h f (List.mem_of_getElem? e)
end DM
/-! DmO: keyword-only parameters with defaults. -/
namespace DM
open PySem PySem.Spec PyProof.Rows L2
variable [LamT]

/-! ### the clauses of the program: which classes they take -/
section
variable {X : Cx} {W : WX} {p p1 p2 : Bool} {G : List Sh} {e : Expr} {es : List Expr} {kws : List Keyword} {ms : List V} {mm : Mi (List D)}
variable {sh : List Sh} {k n : Nat} {f : Addr} {fd : FuncData} {ps ks : List Str} {x : Str} {q pos : Pos}
end
end DM
/-! DmZr: xs[::-1] of lists and tuples. -/
namespace DM
open PySem PySem.Spec PyProof.Rows L2 HT
variable [LamT]
section
variable {prog : Program} {w : World} {A : Around} {E : Value → Shared → Prop} {s : Shared}
end
theorem DE.tr {X : Cx} {W : WX} {p : Bool} {G : List Sh} {e : PySem.Expr} {m : Mi D} (h : DE X W p G e m) (hp : p = true) : DE X W true G e m := hp ▸ h
/-! the reading -/
section
variable {X : Cx} {W : WX} {p : Bool} {G : List Sh}
end
end DM
/-! DmZd: dict displays with constant keys; d[k] of them. -/
namespace DM
open PySem PySem.Spec PyProof.Rows L2
variable [LamT]
def kD : Key → D
  | .inl i => .int i
  | .inr s => .str s
theorem kd_ok (k : Key) : KeyD k (kD k) := by cases k <;> constructor
def DPr (X : Cx) (W : WX) (p : Bool) (G : List Sh) (pos : Pos) (ks : List Key) (keys : List (Option PySem.Expr)) (vals : List PySem.Expr) (m : Mi (List D)) : Prop :=
  ∃ trs, PPs X pos keys vals trs ∧ Tl X W p (fun F H (ps : List (V × V)) ds => ∃ vs : List V, ps = (ks.zip vs).map (fun q => (kV q.1, q.2)) ∧ vs.length = ks.length ∧ Rps X.K F H vs ds) G (tPairs trs) m
section
variable {X : Cx} {W : WX} {p p1 p2 : Bool} {G : List Sh} {pos kp : PySem.Pos} {ks : List Key} {keys : List (Option PySem.Expr)} {vals : List PySem.Expr} {e : PySem.Expr} {m : Mi D} {ms : Mi (List D)}
theorem dpr_nil : DPr X W true G pos [] [] [] aNil := ⟨_, pps_nil, fun F H A σ ρ Q wf en hp => hp.fin0 wf en ⟨[], rfl, rfl, .nil⟩⟩
theorem dpr_str {s : Str} {j} (h1 : DE X W p1 G e m) (h2 : DPr X W p2 G pos ks keys vals ms) : DPr X W (p1 && (p2 && true)) G pos (.inr s :: ks) (some (.Constant (.str s) j kp) :: keys) (e :: vals) (aCons m ms) := by
  obtain ⟨t1, pe1, l1⟩ := h1
  obtain ⟨t2, pe2, l2⟩ := h2
  refine ⟨_, pps_cons pe_str pe1 pe2, fun F H A σ ρ Q wf en hp => ?_⟩
  refine l1.use wf en hp fun d1 ρ1 x H1 F1 A1 s1 wf1 en1 r1 _ hp => ?_
  refine l2.use wf1 en1 hp fun d2 ρ2 y H2 F2 A2 s2 wf2 en2 r2 _ hp => ?_
  obtain ⟨vs, rfl, hl, r⟩ := r2
  exact hp.fin0 wf2 en2 ⟨x :: vs, rfl, congrArg (· + 1) hl, .cons (r1.mono (s2.fut wf1)) r⟩
theorem rpk_zip {K : PySem.W.Frag} {F : FS} {H : Hp} : ∀ {ks : List Key} {vs : List V} {ds : List D}, Rps K F H vs ds → RpK K F H (ks.zip vs) ((ks.map kD).zip ds)
  | [], _, _, _ => by simpa using RpK.nil
  | _ :: _, _, _, .nil => by simpa using RpK.nil
  | k :: ks, _, _, .cons h r => .cons (kd_ok k) h (rpk_zip r)
theorem merge_nodup : ∀ (more kvs : List (Key × V)), ((kvs ++ more).map (·.1)).Nodup → mergeK kvs more = kvs ++ more
  | [], kvs, _ => by simp [mergeK]
  | q :: r, kvs, h => by
    have e : putK kvs q.1 q.2 = kvs ++ [q] := by
      refine putK_new q.2 ?_
      unfold valV
      rw [Option.map_eq_none_iff, List.find?_eq_none]
      intro z hz hq
      have hq : z.1 = q.1 := of_decide_eq_true hq
      rw [List.map_append, List.map_cons] at h
      exact (List.nodup_append.mp h).2.2 z.1 (List.mem_map_of_mem hz) q.1 List.mem_cons_self hq
    show mergeK (putK kvs q.1 q.2) r = _
    rw [e, merge_nodup r (kvs ++ [q]) (by simpa using h)]
    simp
def eDisp (ks : List Key) (m : Mi (List D)) : Mi D := bnd m fun vs => ret (.dct ((ks.map kD).zip vs))
/-! d[k] -/
def keyD : D → Option Key
  | .v (.int i) => some (.inl i)
  | .v (.str x) => some (.inr x)
  | _ => none
def findK (k : Key) : List (D × D) → Option D
  | [] => none
  | q :: r => if keyD q.1 = some k then some q.2 else findK k r
def dgetD : D → D → Option D
  | .dct kvs, k => (keyD k).bind fun q => findK q kvs
  | _, _ => none
theorem keyD_of {k : Key} {d : D} (h : KeyD k d) : keyD d = some k := by cases h <;> rfl
theorem find_ok {K : PySem.W.Frag} {F : FS} {H : Hp} {k : Key} : ∀ {kvs : List (Key × V)} {ds : List (D × D)} {d : D}, RpK K F H kvs ds → findK k ds = some d → ∃ v, valV kvs k = some v ∧ Rp K F H v d
  | _, _, _, .nil, h => by cases h
  | _, _, d, .cons (k := k1) hk hv r, h => by
    unfold findK at h
    rw [keyD_of hk] at h
    by_cases e : k1 = k
    · subst e
      rw [if_pos rfl] at h
      cases h
      exact ⟨_, valV_pos rfl, hv⟩
    · rw [if_neg (fun z => e (Option.some.inj z))] at h
      obtain ⟨v, h1, h2⟩ := find_ok r h
      exact ⟨v, by rw [valV_neg e]; exact h1, h2⟩
theorem kV_of {K : PySem.W.Frag} {F : FS} {H : Hp} {v : V} {d : D} {k : Key} (r : Rp K F H v d) (h : keyD d = some k) : v = kV k := by
  unfold keyD at h
  split at h
  · cases h; cases r; rfl
  · cases h; cases r; rfl
  · cases h
theorem de_dget {o i : PySem.Expr} {mo mi : Mi D} (hu : X.A.units + 64 < cLine) (ho : DE X W p1 G o mo) (hi : DE X W p2 G i mi) (hs : NoSl i := by exact fun _ _ => rfl) : DE X W (p1 && (p2 && true)) G (.Subscript o i pos) (eOp dgetD mo mi) := by
  obtain ⟨ta, pa, la⟩ := ho
  obtain ⟨tb, pb, lb⟩ := hi
  refine ⟨_, pe_dget (by omega) pa pb hs, fun F H A σ ρ Q wf en hp => ?_⟩
  refine la.use wf en hp fun d1 ρ1 x H1 F1 A1 s1 wf1 en1 r1 _ hp => ?_
  refine lb.use wf1 en1 hp fun d2 ρ2 y H2 F2 A2 s2 wf2 en2 r2 _ hp => ?_
  obtain ⟨d, e, hq⟩ := hp.lift
  have r3 := r1.mono (s2.fut wf1)
  unfold dgetD at e
  split at e
  · obtain ⟨k, e1, e2⟩ := Option.bind_eq_some_iff.mp e
    cases r3 with
    | dK f h _ r =>
      obtain ⟨v, h1, h2⟩ := find_ok r e2
      exact ⟨_, v, rfl, .inl ⟨_, k, h, kV_of r2 e1, h1.symm⟩, hq.fin0 wf2 en2 h2⟩
  · cases e
end
/-! int(x) -/
end DM
/-! DmZj: try, raise, isinstance of exceptions, without slots. -/
namespace DM
open PySem PySem.Spec PyProof.Rows L2
def Re.tryE {ω : Type} (hit : Str → Option Bool) (r : Re ω) (s : D → Re ω) : Re ω := match r with
  | .exc x => (match hit x.c with
    | some true => (match s (.ex x.c x.fs) with
      | .ok w => .ok w
      | _ => .bad)
    | some false => .exc x
    | none => .bad)
  | .ok w => .ok w
  | .bad => .bad
@[simp] theorem Re.tryE_ok {ω : Type} (hit : Str → Option Bool) (w : ω) (s : D → Re ω) : Re.tryE hit (.ok w) s = .ok w := rfl
def cx {α ω : Type} (C : Cz α ω) (Γx : Gm) : Cz α ω := ⟨C.P, some Γx⟩
def cClr {ω : Type} (C : Cz Ctl ω) (i : Nat) : Cz Ctl ω := ⟨fun w o => C.P w (clr i o), none⟩
def cNox {ω : Type} (C : Cz Ctl ω) : Cz Ctl ω := ⟨C.P, none⟩
/-- what such a context takes is an outcome without exception -/
class Okp {ω : Type} (C : Cz Ctl ω) : Prop where
  ok : ∀ w o, C.P w o → ∃ c ρ, o = .ok c ρ
instance {β : Type} {Γj : β → Gm} {X} : Okp (cJoin Γj X) := ⟨fun w o ⟨ρ, h, _⟩ => ⟨_, _, h⟩⟩
instance {β : Type} {Γj : β → Gm} {X} : Okp (cLoopP Γj X) := ⟨fun w o ⟨ρ, h, _⟩ => h.elim (fun h => ⟨_, _, h⟩) fun h => ⟨_, _, h⟩⟩
instance {γ : Type} {g : γ → D × Gm} {X} : Okp (cTop g X) := ⟨fun w o ⟨ρ, h, _⟩ => h.elim (fun h => ⟨_, _, h⟩) fun h => ⟨_, _, h.2⟩⟩
instance {β ω : Type} {C : Cz Ctl ω} {Γj : β → Gm} [q : Okp C] : Okp (cEsc C Γj) := ⟨fun w o h => by
  cases w with
  | nx b => obtain ⟨ρ, h, _⟩ := h; exact ⟨_, _, h⟩
  | bk b => obtain ⟨ρ, h, _⟩ := h; exact ⟨_, _, h⟩
  | rt w => exact q.ok w o h.1⟩
instance {β ω : Type} {C : Cz Ctl ω} {Γj : β → Gm} : Okp (cLoopR C Γj) := ⟨fun w o h => by
  cases w with
  | nx b => obtain ⟨ρ, h, _⟩ := h; exact h.elim (fun h => ⟨_, _, h⟩) fun h => ⟨_, _, h⟩
  | bk b => obtain ⟨ρ, h, _⟩ := h; exact ⟨_, _, h⟩
  | rt w => obtain ⟨_, d, ρ, h⟩ := h; exact ⟨_, _, h⟩⟩
instance {ω : Type} {C : Cz Ctl ω} {Γx} [q : Okp C] : Okp (cx C Γx) := ⟨fun w o h => q.ok w o h⟩
instance {ω : Type} {C : Cz Ctl ω} [q : Okp C] : Okp (cNox C) := ⟨fun w o h => q.ok w o h⟩
instance {ω : Type} {C : Cz Ctl ω} {i} [q : Okp C] : Okp (cClr C i) := ⟨fun w o h => by
  obtain ⟨c, ρ, e⟩ := q.ok w _ h
  cases o with
  | ok c ρ => exact ⟨_, _, rfl⟩
  | exc x ρ => cases e
  | bad => cases e⟩
section
variable {α ω : Type} {D0 : Cz Ctl ω} {Γ Γx Γ' : Gm} {R : Re ω} {mb ms t : Ms} {w : ω} {d : D} {hit : Str → Option Bool} {i : Nat}
theorem j_raise {c : Str} (hx : XOk D0.X Γ) : J D0 (sSeq (sRaise c) t) Γ (.exc ⟨c, []⟩ : Re ω) := by
  intro ρ a
  show Fit D0 (.exc _) _
  unfold Fit
  cases ex : D0.X with
  | none => trivial
  | some Γy => exact ⟨ρ, rfl, (hx Γy ex).ag a⟩
theorem j_disp {C : Cz α ω} {kd : D → Mi α} {ks : List Key} {ms : Mi (List D)} (h : J C (bnd ms fun vs => kd (.dct ((ks.map kD).zip vs))) Γ R) : J C (bnd (eDisp ks ms) kd) Γ R := by
  have e : bnd (eDisp ks ms) kd = bnd ms fun vs => kd (.dct ((ks.map kD).zip vs)) := by
    unfold eDisp; simp only [bnd_assoc]; rfl
  rw [e]; exact h
end
end DM
/-! DmZe: owned dicts (records): a display. -/
namespace DM
open PySem PySem.Spec PyProof.Rows L2
variable [LamT]
section
variable {X : Cx} {W : WX} {p p1 p2 : Bool} {G : List Sh} {pos kp : PySem.Pos} {ks : List Key} {keys : List (Option PySem.Expr)} {vals : List PySem.Expr} {ms : Mi (List D)}
theorem zip_keys : ∀ (ks : List Key) (vs : List V), vs.length = ks.length → (ks.zip vs).map (·.1) = ks
  | [], vs, _ => by simp
  | k :: ks, [], h => by simp at h
  | k :: ks, v :: vs, h => by simp at h; simp [zip_keys ks vs h]
theorem do_disp (h : DPr X W p G pos ks keys vals ms) (hk : ks.Nodup) (h15 : ks.length ≤ 15) (hall : keys.all (·.isSome) = true) (hl : keys.length = vals.length) (h0 : keys ≠ []) (h16 : keys.length ≤ 15) : DO X W (p && true) (.dct .fz) G (.Dict keys vals pos) (eDisp ks ms) := by
  obtain ⟨trs, pe, l⟩ := h
  refine ⟨_, pe_disp pe hall hl h0 h16, fun F H A σ ρ Q wf en hp => ?_⟩
  intro a hn
  have s0 : Pst F H F (upd H a (.dK [])) := Pst.lay0 hn wf.f
  have wf0 := s0.wf wf
  have en0 := en.mono (s0.stay wf.a)
  have nFa : ¬ F a := fun z => wf.f a z hn
  have nAa : a ∉ A := fun z => (wf.a a z).1 hn
  refine l F _ A σ ρ _ wf0 en0 ?_
  unfold eDisp bnd at hp
  cases em : ms ρ with
  | bad => rw [em] at hp; exact hp
  | exc x ρ' =>
    rw [em] at hp
    exact fun cls dd H' F' A' st wf' en' r pp => hp cls dd H' F' A' (s0.stp.trans st) wf' en' r fun q => by
      obtain ⟨a1, a2, a3⟩ := pp (Bool.and_eq_true_iff.mp q).1
      exact ⟨s0.trans a1, a2, a3⟩
  | ok ds ρ' =>
    rw [em] at hp
    intro ps H2 F2 A2 st wf2 en2 r pp
    obtain ⟨vs, rfl, hlv, r⟩ := r
    have ha2 : H2 a = some (.dK []) := (st.keep a _ upd_same nAa).eq nt_dK
    have nF2 : ¬ F2 a := fun z => by
      rcases st.fn a z with q | q | q
      · exact nFa q
      · exact nAa q
      · rw [upd_same] at q; exact q ntk
    have nA2 : a ∉ A2 := fun z => by
      rcases st.own a z with q | q
      · exact nAa q
      · rw [upd_same] at q; cases q
    refine ⟨ha2, ks.zip vs, rfl, by rw [List.length_zip]; omega, ?_⟩
    have em2 : mergeK [] (ks.zip vs) = ks.zip vs := by
      rw [merge_nodup (ks.zip vs) [] (by rw [List.nil_append, zip_keys ks vs hlv]; exact hk), List.nil_append]
    rw [em2]
    have fut : Fut F2 H2 F2 (upd H2 a (.dK (ks.zip vs))) := ⟨fun b h => h, fun b o f e => .inl (by rw [upd_ne (ne_f f nF2)]; exact e)⟩
    have stay : Stay F2 H2 A2 F2 (upd H2 a (.dK (ks.zip vs))) := ⟨fut, fun t => t.updK ha2, fun b hb o e _ => by rw [upd_ne (ne_a hb nA2)]; exact e⟩
    have kp : ∀ b o, H b = some o → b ≠ a := fun b o e z => by rw [z, hn] at e; cases e
    refine hp _ _ F2 A2 [a] ⟨st.f, fun b o e nb => ?_, fun b hb => ?_, fun b hb => ?_, fun t => (st.tb (t.lay hn)).updK ha2⟩ ⟨fun b hb => ?_, fun b hb => ?_, List.nodup_cons.mpr ⟨nA2, wf2.nd⟩, fun b hb z => ?_⟩ (en2.mono stay) ⟨a, _, [], rfl, rfl, .inl ⟨_, rfl, upd_same, allK_of (rpk_zip (r.mono fut))⟩⟩ fun q => ?_
    · rw [upd_ne (kp b o e)]
      exact st.keep b o (by rw [upd_ne (kp b o e)]; exact e) nb
    · rcases List.mem_cons.mp hb with hb | hb
      · exact .inr (by rw [hb]; exact hn)
      · rcases st.own b hb with q | q
        · exact .inl q
        · by_cases z : b = a
          · rw [z, upd_same] at q; cases q
          · rw [upd_ne z] at q; exact .inr q
    · rcases st.fn b hb with q | q | q
      · exact .inl q
      · exact .inr (.inl q)
      · by_cases z : b = a
        · rw [z, upd_same] at q; exact absurd ntk q
        · rw [upd_ne z] at q; exact .inr (.inr q)
    · rw [upd_ne (ne_f hb nF2)]; exact wf2.f b hb
    · rcases List.mem_cons.mp hb with hb | hb
      · rw [hb, upd_same]; exact ntk
      · rw [upd_ne (ne_a hb nA2)]; exact wf2.a b hb
    · rcases List.mem_cons.mp hb with hb | hb
      · rw [hb] at z; exact nF2 z
      · exact wf2.ap b hb z
    · obtain ⟨a1, a2, a3⟩ := pp (Bool.and_eq_true_iff.mp q).1
      have s1 := s0.trans a1
      refine ⟨⟨s1.f, fun b o e => by rw [upd_ne (kp b o e)]; exact s1.keep b o e, fun t => (s1.tb t).updK ha2, fun b hb => ?_⟩, a2, a3, fun b hb => by rw [List.mem_singleton.mp hb]; exact hn⟩
      rcases s1.new b hb with q | ⟨q1, q2⟩
      · exact .inl q
      · refine .inr ⟨q1, ?_⟩
        by_cases z : b = a
        · rw [z, upd_same]; exact fun q => nomatch q
        · rw [upd_ne z]; exact q2
theorem de_disp (h : DPr X W p G pos ks keys vals ms) (hk : ks.Nodup) (h15 : ks.length ≤ 15) (hall : keys.all (·.isSome) = true) (hl : keys.length = vals.length) (h0 : keys ≠ []) (h16 : keys.length ≤ 15) : DE X W (p && true) G (.Dict keys vals pos) (eDisp ks ms) := (do_disp h hk h15 hall hl h0 h16).deD
end
end DM
/-! DmZf: owned dicts (records): d[k], d[k] = v; a def whose mirror is not had (for recursions). -/
namespace DM
open PySem PySem.Spec PyProof.Rows L2
variable [LamT]
/-- shapes of a dict of this frame's own -/
inductive Md : Sh → Prop
  | dct : Md (.dct .fz)
  | at_ {v s} : Md s → Md (.at_ v s)
section
variable {K : PySem.W.Frag} {F F' : FS} {H H' : Hp}
theorem Md.ow {s : Sh} {v : V} {ds : List (D × D)} {B : List Addr} (m : Md s) (o : Ow K F H s v (.dct ds) B) : ∃ a kvs, v = .ref a ∧ H a = some (.dK kvs) ∧ RpK K F H kvs ds ∧ B = [a] := by
  induction m with
  | dct =>
    obtain ⟨a, ds', B', rfl, e, h⟩ := o
    rcases h with ⟨kvs, e1, h, r⟩ | ⟨kvs, e1, h, r⟩
    · cases e1
      obtain ⟨r, e2⟩ := allK_fz r
      exact ⟨a, kvs, rfl, h, r, by rw [e, e2]⟩
    · cases e1
  | at_ m ih => exact ih o.2
theorem Md.of {s : Sh} {a : Addr} {kvs : List (Key × V)} {ds' : List (D × D)} (m : Md s) {v : V} {d : D} {B : List Addr} (o : Ow K F H s v d B) (e : v = .ref a) (h : H' a = some (.dK kvs)) (r : RpK K F' H' kvs ds') : Ow K F' H' s (.ref a) (.dct ds') [a] := by
  induction m with
  | dct => exact ⟨a, ds', [], rfl, rfl, .inl ⟨kvs, rfl, h, allK_of r⟩⟩
  | at_ m ih => exact ⟨e ▸ o.1, ih o.2⟩
end
def putDK (ds : List (D × D)) (k : Key) (dk x : D) : List (D × D) :=
  if (ds.any fun q => decide (keyD q.1 = some k)) = true then ds.map (fun q => if keyD q.1 = some k then (q.1, x) else q) else ds ++ [(dk, x)]
section
variable {X : Cx} {W : WX} {p p1 p2 : Bool} {G : List Sh} {pos q : PySem.Pos} {x : Str} {s : Sh}
end
/-! recursions -/
def fuel {α : Type} (z : α) (f : α → α) : Nat → α
  | 0 => z
  | n + 1 => f (fuel z f n)
/-! stage 2 -/
section
variable {α ω : Type} {C : Cz α ω} {Γ : Gm} {m : Mi α}
end
@[irreducible] def irr {α : Type} (o : Option α) : Option α := o
theorem irr_eq {α : Type} (o : Option α) : irr o = o := by unfold irr; rfl
theorem irr_of {α : Type} {o : Option α} {a : α} (h : o = some a) : irr o = some a := by rw [irr_eq]; exact h
theorem j_liftI {α β ω : Type} {C : Cz α ω} {Γ : Gm} {k : β → Mi α} {o : Option β} {R : β → Re ω} (h : ∀ z, J C (k z) Γ (R z)) : J C (bnd (lift o) k) Γ (.ofO (irr o) R) := by
  rw [irr_eq]; exact j_lift h
/-! a def that hands back a thing of the caller's own -/
section
variable {γ : Type} {Γ : Gm} {m : Ms}
end
end DM
/-! DmLa: lambdas without parameters, handed to a def that calls them: f(lambda: e). -/
namespace DM
open PySem PySem.Spec PyProof.Rows L2 LamX

/-! ### the code objects that are known, by another instance -/
section
variable {T : LamT} {F F0 : FS} {H H0 : Hp} {c : Addr} {q : Str}
end

/-! ### the lambda is called -/
section
variable {X : Cx} {pins : List (Addr × Obj)} {σ : L2.St} {H : Hp} {s : Shared}
variable [LamT]
end

/-! ### THE RULE -/
def fa : Sh → Bool
  | .fz => true
  | .any => true
  | _ => false
def reOut (o : Re D) : Mi D := fun ρ => match o with
  | .ok d => .ok d ρ
  | .exc x => .exc x ρ
  | .bad => .bad
def eDeed (o : Re D) : Mi D := fun ρ => match ρ[0]? with
  | some (some _) => reOut o ρ
  | _ => .bad
def FnL (P : Program) (w : World) (K : PySem.W.Frag) (mg : Str → Option Value) (base : Heap) (k : Nat) (g : Addr) (x : Str) (Ng : List Str) (sg : Scope) (bg : List Stmt) (a : Str) (n : Nat) (m : Re D → Ms) : Prop :=
  ∀ (T2 : LamT) (cdv : Value) (f : Addr) (o : Re D) (A : Around) (outer : List PySem.Env) (s : Shared) (H : Hp) (E : XK),
    Room k (A.deeper (envOfC x sg s.heap.objs.size g cdv)) → (A.deeper (envOfC x sg s.heap.objs.size g cdv)).guards = some [] →
    (∀ (W : WX) (pn : List (Addr × Obj)) (xe : Value → Shared → Prop) (p1 p2 : Pos) (G : List Sh), G[0]? = some (.at_ (.ref f) .any) → Takes ((FX P w K mg base Ng x sg g cdv A outer s H E).tr pn xe) W →
      @DE T2 ((FX P w K mg base Ng x sg g cdv A outer s H E).tr pn xe) W true G (.Call (.Name a p1) [] [] p2) (eDeed o)) →
    @DSs T2 (FX P w K mg base Ng x sg g cdv A outer s H E) (fun cls d _ H => E cls d H) (scF [.any] .fz [.ref f] (n - 1)) (g0s [.any] [.ref f] ++ List.replicate (n - 1) .any) bg (m o) (grs [.any] [.ref f] ++ List.replicate (n - 1) .any)
section
variable {X : Cx} {W : WX} {G Gf : List Sh}
end
theorem FnL.mono {P : Program} {w : World} {K : PySem.W.Frag} {mg : Str → Option Value} {base : Heap} {j k : Nat} {g : Addr} {x : Str} {Ng : List Str} {sg : Scope} {bg : List Stmt} {a : Str} {n : Nat} {m : Re D → Ms} (h : FnL P w K mg base j g x Ng sg bg a n m) (le : j ≤ k) : FnL P w K mg base k g x Ng sg bg a n m :=
  fun T2 cdv f o A outer s H E hr => h T2 cdv f o A outer s H E (hr.mono le)

/-! ### what a plain function tells of it -/
section
variable {α ω : Type} {C : Cz α ω} {Γ : Gm} {kd : D → Mi α} {R : D → Re ω}
end
/-! ### a list of one's own from two lists -/
end DM
/-! DmLb: list(range(n)), tuple(range(n)), list(range(i, j)), tuple(range(i, j)). -/
namespace DM
open PySem PySem.Spec PyProof.Rows L2
variable [LamT]
section
variable {X : Cx} {W : WX} {p p1 p2 : Bool} {G : List Sh} {a b : Expr} {q1 q2 q3 q4 : Pos} {m ma mb : Mi D}
end
end DM
/-! DmLc: tuples and dicts of texts at the module's top; d.get; ranges with a step. -/
namespace DM
open PySem PySem.Spec PyProof.Rows L2
/-! a tuple of texts -/
/-! a dict of texts -/
variable [LamT]
section
variable {X : Cx} {W : WX} {p p1 p2 p3 : Bool} {G : List Sh} {a : Expr} {pos q : Pos} {x : Str} {tbl : List (Str × Str)} {ma : Mi D}
/-! d.get(k), d.get(k, z) -/
/-! d.update(e) -/
def mergeD (ds es : List (D × D)) : List (D × D) := es.foldl (fun acc q => match keyD q.1 with
  | some k => putDK acc k q.1 q.2
  | none => acc) ds
def updD : D → D → Option D
  | .dct ds, .dct es => if ds.length + es.length ≤ 16777216 then some (.dct (mergeD ds es)) else none
  | _, _ => none
def updK (i : Nat) (y : D) : Mi D := fun ρ => match ρ[i]? with
  | some (some x) => (match updD x y with
    | some z => .ok .non (ρ.set i (some z))
    | none => .bad)
  | _ => .bad
/-! ranges with a step -/
end
/-! stage 2 -/
section
variable {α ω : Type} {C : Cz α ω} {Γ : Gm} {R : Re ω} {ma mb mc : Mi D} {kd : D → Mi α} {ms : Mi (List D)} {kl : List D → Mi α}
end
end DM
/-! DmLd: a method called on what a call has made: f(x).append(e). -/
namespace DM
open PySem PySem.Spec PyProof.Rows L2
variable [LamT]
section
variable {X : Cx} {W : WX} {p1 p2 : Bool} {G : List Sh} {o e : Expr} {es : List Expr} {apos cpos : Pos} {name : Str} {id : String} {r : V → List V → Hp → VK → Prop} {f : List D → List D → Option (D × List D)} {mo : Mi D}
end
/-! f(k = v, ..), the result one's own -/
section
variable {X : Cx} {W : WX} {p2 : Bool} {G : List Sh} {kws : List Keyword} {sh : List Sh} {sr : Sh} {k : Nat} {f : Addr} {fd : FuncData} {ps ks : List Str} {x : Str} {q pos : Pos} {F : FS} {H : Hp} {A : List Addr} {σ : L2.St} {ρ : Env}
end
section
variable {α β γ ω : Type} {C : Cz α ω} {Γ : Gm} {R : Re ω} {mo : Mi D} {ma : Mi (List D)} {kd : D → Mi α}
end
/-! d[f(x)] = v, by plain functions -/
def Re.only {α β : Type} (r : Re α) (k : α → Re β) : Re β := match r with
  | .ok a => k a
  | _ => .bad
section
variable {α ω : Type} {C : Cz α ω} {Γ : Gm} {m : Mi α}
end
end DM
/-! DmLe: dicts of one's own whose keys are tuples of texts and numbers. -/
namespace DM
open PySem PySem.Spec PyProof.Rows L2
variable [LamT]
section
variable {K : PySem.W.Frag} {F F' : FS} {H H' : Hp}
end
section
variable {X : Cx} {W : WX} {G : List Sh} {pos : Pos}
end
/-! the pairs behind d[k] = x, k a tuple -/
section
variable {K : PySem.W.Frag} {F : FS} {H : Hp}
end
section
variable {X : Cx} {W : WX} {p p1 p2 : Bool} {G : List Sh} {pos q : PySem.Pos} {x : Str} {s : Sh}
end
section
variable {α ω : Type} {C : Cz α ω} {Γ : Gm} {m : Mi α}
end
end DM
/-! DmLf: list(d) of a dict whose keys are tuples. -/
namespace DM
open PySem PySem.Spec PyProof.Rows L2
variable [LamT]
section
variable {X : Cx} {W : WX} {p : Bool} {G : List Sh} {a : Expr} {pos q : Pos}
end
end DM
namespace DM
theorem LkV.of {o : FO} {r : Re D} {fs : D → List D} {n : Nat} (h : Lk o r (fun c => c) fs n) : LkV o r := by
  unfold Lk at h
  unfold LkV
  cases r with
  | ok d => exact ⟨_, h⟩
  | exc x => obtain ⟨ds, h, _⟩ := h; exact ⟨ds, h⟩
  | bad => trivial
end DM
/-! DmLg: dict(x): of pairs in a list or a tuple, of a dict. -/
namespace DM
open PySem PySem.Spec PyProof.Rows L2
section
variable {X : Cx}
end
variable [LamT]
section
variable {K : PySem.W.Frag} {F : FS} {H : Hp}
end
section
variable {X : Cx} {W : WX} {p : Bool} {G : List Sh} {a : PySem.Expr} {pos q : PySem.Pos}
end
end DM
/-! DmLh: starred targets, the starred one last. -/
namespace DM
open PySem PySem.Spec PyProof.Rows L2
section
variable {prog : Program} {w : World} {A : Around} {E : Value → Shared → Prop} {s : Shared}
end
section
variable {X : Cx} {pos : Pos}
end
variable [LamT]
section
variable {X : Cx} {G G2 : List Sh} {es : List PySem.Expr} {pos : PySem.Pos}
end
/-! stage 2 -/
section
variable {α ω : Type} {C : Cz α ω} {Γ : Gm} {m : Mi α}
end
end DM
/-! DmLi: set comprehensions of one clause and of two, whatever the set grows by. -/
namespace DM
open PySem PySem.Spec PyProof.Rows L2
abbrev newS (w : World) : Obj := { cls := .type "set", dict := none, data := .set #[] 0 (.fresh 0 0 (!w.params.followText "set-order")) }
/-- how a new set is tracked: at first, and behind a step by a value -/
structure Gw (P : Program) (w : World) where
  o0 : Addr → HO
  stp : Addr → HO → V → HO → Prop
  fresh : ∀ (H : Hp) (h : Heap), ObjOk P w H (h.push (newS w)) h.objs.size (o0 h.objs.size)
  add : ∀ X : Cx, X.prog = P → X.w = w → MtR X "set.add" (fun x xs H Q => ∃ D o y o', x = V.ref D ∧ xs = [y] ∧ H D = some o ∧ stp D o y o' ∧ Q .non (L2.upd H D o'))
section
variable {X : Cx}
end
/-! the turns of two clauses -/
section
variable {prog : Program} {w : World} {A : Around} {R : Result → Shared → Prop} {s : Shared} {elt t0 i0 t1 i1 : Expr} {ifs0 ifs1 : List Expr} {scope : Scope} {pos : Pos} {it acc : Value} {env : PySem.Env}
end
section
variable {X : Cx}
end
end DM
/-! DmLj: comprehensions of two clauses; sets by comprehensions: their number, their members in order. -/
namespace DM
open PySem PySem.Spec PyProof.Rows L2
/-! slots by place -/
/-- how what is made is tracked, by the items so far -/
structure Ob where
  ob : Addr → List V → HO
  nt : ∀ D xs, nTb (ob D xs)
  n2 : ∀ D xs, Nt (some (ob D xs))
  nc : ∀ D xs a q, ob D xs ≠ LamX.CodeO a q
variable [LamT]
section
variable {K : PySem.W.Frag} {F1 F3 F4 : FS} {H1 H3 H4 : Hp} {A1 A3 A4 : List Addr} {D : Addr}
end
section
variable {X : Cx} {W : WX} {C : SC} {p p1 p2 p3 p4 p5 : Bool} {G G1 G2 G3 G' Gh : List Sh} {F F1 : FS} {H H1 : Hp} {A A1 : List Addr} {σ : L2.St} {ρ ρ1 : Env} {s : Sh}
end
end DM
/-! DmLk: [e for .. for ..], len({..}), sorted({..}). -/
namespace DM
open PySem PySem.Spec PyProof.Rows L2
/-! each once -/
def dd {α : Type} [DecidableEq α] (xs : List α) : List α := xs.foldl (fun a k => if k ∈ a then a else a ++ [k]) []
section
variable {α : Type} [DecidableEq α]
end
section
variable {α : Type} [DecidableEq α]
end
/-! the sets -/
section
variable {K : PySem.W.Frag} {F : FS} {H : Hp}
end
/-! the calls -/
section
variable {X : Cx}
end
section
variable {P : Program} {w : World} {A : Around} {E : Value → Shared → Prop} {s : Shared} {a : Addr}
end
section
variable {X : Cx}
end
variable [LamT]
section
variable {X : Cx} {W : WX} {C : SC} {p p1 p2 p3 p4 p5 : Bool} {G G1 G2 G3 G' Gh : List Sh} {F F1 : FS} {H H1 : Hp} {A A1 : List Addr} {σ : L2.St} {ρ ρ1 : Env} {s : Sh} {e tg elt iter tg1 iter1 : Expr} {ifs ifs1 : List Expr} {pos q : Pos} {scope : Scope} {own : List (Str × Nat)} {ov1 : List Nat}
/-! sets, by the list of what they're made of -/
/-- a kind of sets: how they are tracked, of what lists they can be made -/
structure Kd (P : Program) (w : World) where
  z : Gw P w
  b0 : Ob
  okf : List D → Prop
  okA : List V → V → Prop
  e0 : ∀ D, z.o0 D = b0.ob D []
  step : ∀ (D : Addr) (acc : List V) (y : V) (H : Hp) (Nx : Hp → Prop), H D = some (b0.ob D acc) → okA acc y → Nx (L2.upd H D (b0.ob D (acc ++ [y]))) → ∃ o o', H D = some o ∧ z.stp D o y o' ∧ Nx (L2.upd H D o')
  ok : ∀ {K : PySem.W.Frag} {F : FS} {H : Hp} {xs accd rest : List D} {acc : List V} {y : V} {d : D}, okf xs → Rps K F H acc accd → Rp K F H y d → xs = accd ++ d :: rest → okA acc y
end
end DM
/-! DmLl: xs += e in place; x = [e for .. for ..] on one line. -/
namespace DM
open PySem PySem.Spec PyProof.Rows L2
variable [LamT]
section
variable {X : Cx} {W : WX} {C : SC} {p p1 p2 p3 p4 p5 : Bool} {G G1 G2 G3 G' Gh : List Sh} {F F1 : FS} {H H1 : Hp} {A A1 : List Addr} {σ : L2.St} {ρ ρ1 : Env} {s : Sh} {e tg elt iter tg1 iter1 : Expr} {ifs ifs1 : List Expr} {pos q : Pos} {scope : Scope} {own : List (Str × Nat)} {ov1 : List Nat} {x : Str}
end
end DM
/-! DmLm: lambdas with one parameter, handed to a def that calls them: f(a, lambda x: e, b). The def runs over a base of its own: all that lies, but for what is tracked and the frames. -/
namespace DM
open PySem PySem.Spec PyProof.Rows L2 LamX

/-! ### the lambda's names -/
structure LamS1 (sc scope : Scope) (a : Str) : Prop where
  kind : scope.kind = .function
  co : scope.isCoroutine = false
  gen : scope.isGenerator = false
  par : scope.names.lookup a = some .local
  own : ∀ y ∈ scope.names, y.2 ≠ .cell ∧ (y.2 = .local → y.1 = a)
  free : ∀ y ∈ scope.names, y.2 = .free → sc.names.lookup y.1 = some .cell ∨ sc.names.lookup y.1 = some .free
theorem LamS1.has {X : Cx} {scope : Scope} {a : Str} (L : LamS1 X.env.scope scope a) (ok : X.Ok) : ∀ y ∈ scope.names, y.2 = .free → ∃ c, X.env.cells.lookup y.1 = some c := fun y hy e => by
  rcases L.free y hy e with k | k
  · exact ok.has _ (.inl k)
  · exact ok.has _ (.inr k)

/-! ### another base -/
section
variable {X : Cx} {pins : List (Addr × Obj)} {σ : L2.St} {H HZ : Hp} {s s1 : Shared}
end

/-! ### the mirrors -/
def eDeed1 (i : Nat) (o : D → Re D) (me : Mi D) : Mi D := fun ρ => match ρ[i]? with
  | some (some _) => bnd me (fun d => reOut (o d)) ρ
  | _ => .bad
/-- what the def with the deed may lean on at its call -/
structure OnB (Y : Cx) (P : Program) (w : World) (K : PySem.W.Frag) (mg : Str → Option Value) (B : Heap) (A : Around) : Prop where
  prog : Y.prog = P
  w : Y.w = w
  K : Y.K = K
  mg : Y.mg = mg
  base : Y.base = B
  A : Y.A = A
def FnL1 (Ok : LamT → Heap → Prop) (P : Program) (w : World) (K : PySem.W.Frag) (mg : Str → Option Value) (k : Nat) (g : Addr) (x : Str) (Ng : List Str) (sg : Scope) (bg : List Stmt) (a : Str) (n : Nat) (m : (D → Re D) → Ms) : Prop :=
  ∀ (T2 : LamT) (B : Heap) (cdv : Value) (f : Addr) (v0 v2 : V) (o : D → Re D) (A : Around) (outer : List PySem.Env) (s : Shared) (H : Hp) (E : XK), Ok T2 B →
    Room k (A.deeper (envOfC x sg s.heap.objs.size g cdv)) → (A.deeper (envOfC x sg s.heap.objs.size g cdv)).guards = some [] →
    (∀ (Y : Cx) (W : WX) (p : Bool) (e : Expr) (me : Mi D) (p1 p2 : Pos) (G : List Sh), OnB Y P w K mg B (A.deeper (envOfC x sg s.heap.objs.size g cdv)) → Y.N[1]? = some a → Vis Y.env.scope a → G[1]? = some (.at_ (.ref f) .any) → Takes Y W → @DE T2 Y W p G e me →
      starEach [e] Y.env = (false, eval e Y.env) :: starEach [] Y.env → @DE T2 Y W (p && true) G (.Call (.Name a p1) [e] [] p2) (eDeed1 1 o me)) →
    @DSs T2 (FX P w K mg B Ng x sg g cdv A outer s H E) (fun cls d _ H => E cls d H) (scF [.fz, .any, .fz] .fz [v0, .ref f, v2] (n - 3)) (g0s [.fz, .any, .fz] [v0, .ref f, v2] ++ List.replicate (n - 3) .any) bg (m o) (grs [.fz, .any, .fz] [v0, .ref f, v2] ++ List.replicate (n - 3) .any)
theorem FnL1.mono {Ok : LamT → Heap → Prop} {P : Program} {w : World} {K : PySem.W.Frag} {mg : Str → Option Value} {j k : Nat} {g : Addr} {x : Str} {Ng : List Str} {sg : Scope} {bg : List Stmt} {a : Str} {n : Nat} {m : (D → Re D) → Ms} (h : FnL1 Ok P w K mg j g x Ng sg bg a n m) (le : j ≤ k) : FnL1 Ok P w K mg k g x Ng sg bg a n m :=
  fun T2 B cdv f v0 v2 o A outer s H E ok hr => h T2 B cdv f v0 v2 o A outer s H E ok (hr.mono le)
end DM
/-! DmLn: list(range(i, j, k)); what plain functions tell of deeds with one parameter. -/
namespace DM
open PySem PySem.Spec PyProof.Rows L2
variable [LamT]
section
variable {X : Cx} {W : WX} {p : Bool} {G : List Sh} {a b c : Expr} {q1 q2 q3 q4 : Pos} {ms : Mi (List D)}
end
/-! ### what plain functions tell -/
section
omit [LamT]
variable {α ω : Type} {C : Cz α ω} {Γ : Gm} {kd : D → Mi α} {R : D → Re ω} {Rr : Re ω} {ms : Mi (List D)}
end

/-! ### xs[::k] of a list -/
section
variable [LamT] {X : Cx} {W : WX} {p : Bool} {G : List Sh}
end
end DM
/-! DmLo: xs[k] += a whole number that is written. -/
namespace DM
open PySem PySem.Spec PyProof.Rows L2
section
variable {X : Cx}
end
variable [LamT]
section
variable {X : Cx} {W : WX} {C : SC} {p : Bool} {G : List Sh} {s : Sh} {ik : Expr} {pos q tpos cpos : Pos} {x : Str}
end
/-! displays with whole numbers as keys -/
section
variable {X : Cx} {W : WX} {p p1 p2 : Bool} {G : List Sh} {pos kp kq : PySem.Pos} {ks : List Key} {keys : List (Option PySem.Expr)} {vals : List PySem.Expr} {e : PySem.Expr} {m : Mi D} {ms : Mi (List D)}
end
/-! one truth value less another one -/
section
variable {prog : Program} {w : World} {A : Around} {E : Value → Shared → Prop} {s : Shared}
end
end DM
/-! DmLp: zip of two, strict, each pair kept by a name. -/
namespace DM
open PySem PySem.Spec PyProof.Rows L2
section
variable {prog : Program} {w : World} {A : Around} {E : Value → Shared → Prop} {s : Shared} {z TI TO i1 i2 : Addr} {fp1 fp2 : List Addr} {n1 n2 i : Nat} {P1 P2 : Nat → Value → Prop} {St1 St2 : Nat → Heap → Prop} {a1 a2 : Value} {f0 : Value} {fl : Bool}
end
section
variable [LamT] {X : Cx} {W : WX} {p p1 p2 : Bool} {G : List Sh} {e e2 : Expr} {nm : Str} {pos q tpos : Pos} {F F1 : FS} {H H1 : Hp}
end
end DM
/-! DmLq: {k: v for ..}, keys whole numbers or texts: a dict of one's own. -/
namespace DM
open PySem PySem.Spec PyProof.Rows L2
/-! lists of things, one by one as data -/
inductive Al {ι : Type} (R : ι → D → Prop) : List ι → List D → Prop
  | nil : Al R [] []
  | cons {y : ι} {d : D} {ys : List ι} {ds : List D} : R y d → Al R ys ds → Al R (y :: ys) (d :: ds)
section
variable {ι : Type} {R R' : ι → D → Prop}
theorem Al.mono (h : ∀ y d, R y d → R' y d) : ∀ {ys ds}, Al R ys ds → Al R' ys ds
  | _, _, .nil => .nil
  | _, _, .cons r s => .cons (h _ _ r) (Al.mono h s)
theorem Al.app : ∀ {ys ds zs es}, Al R ys ds → Al R zs es → Al R (ys ++ zs) (ds ++ es)
  | _, _, _, _, .nil, s => s
  | _, _, _, _, .cons r a, s => .cons r (a.app s)
theorem Al.length : ∀ {ys ds}, Al R ys ds → ys.length = ds.length
  | _, _, .nil => rfl
  | _, _, .cons _ s => congrArg (· + 1) s.length
end
/-- how what is made is tracked, by what was put in so far -/
structure ObG (ι : Type) where
  ob : List ι → HO
  nt : ∀ xs, nTb (ob xs)
  n2 : ∀ xs, Nt (some (ob xs))
  nc : ∀ xs a q, ob xs ≠ LamX.CodeO a q
variable [LamT]
section
variable {X : Cx} {W : WX} {C : SC} {p p1 p2 p3 p4 p5 : Bool} {G G1 G2 G3 G' Gh : List Sh} {F F1 : FS} {H H1 : Hp} {A A1 : List Addr} {σ : L2.St} {ρ ρ1 : Env} {s : Sh}
end
/-! pairs put in -/
def RKV (K : PySem.W.Frag) : Rel (V × V) D := fun F H q d => ∃ a b, d = .tup [a, b] ∧ Rp K F H q.1 a ∧ Rp K F H q.2 b
theorem RKV.mono {K : PySem.W.Frag} {F F' : FS} {H H' : Hp} (m : Fut F H F' H') (q : V × V) (d : D) (h : RKV K F H q d) : RKV K F' H' q d := by
  obtain ⟨a, b, e, h1, h2⟩ := h
  exact ⟨a, b, e, h1.mono m, h2.mono m⟩
section
variable {X : Cx} {W : WX} {C : SC} {p p1 p2 p3 p4 p5 : Bool} {G G1 G2 G3 G' Gh : List Sh} {F F1 : FS} {H H1 : Hp} {A A1 : List Addr} {σ : L2.St} {ρ ρ1 : Env} {s : Sh} {kx vx tg iter : Expr} {ifs : List Expr} {pos q : Pos} {scope : Scope} {own : List (Str × Nat)}
end
end DM
/-! DmLr: exceptions with an __init__ of their own that keeps one field: raised, read, asked for their class. -/
namespace DM
open PySem PySem.Spec PyProof.Rows L2
variable [LamT]

def bsI : Nat → List Value × String × String × String
  | 0 => ([.type "ValueError", .type "Exception", .type "BaseException", .type "object"], "ValueError", "ValueError.__new__", "ValueError.__init__")
  | _ => ([.type "LookupError", .type "Exception", .type "BaseException", .type "object"], "LookupError", "LookupError.__new__", "LookupError.__init__")
/-- what the top tells of the class at C, its __init__ at fI, the class P whose __init__ is called there, the field f -/
structure IniC (K : PySem.W.Frag) (C fI P : Addr) (f : Str) (k : Nat) : Prop where
  new : PySem.W.excInitIn K C (bsI k).1 (bsI k).2.2.1 = true
  ovr : PySem.W.excOver K C (bsI k).1 = true
  exC : PySem.W.subIn K (.ref C) (.type "BaseException") = some true
  tyC : PySem.W.typeIn K (.ref C) = some (.type "type")
  kC : PySem.W.keepIn K (.ref C) = true
  ini : PySem.W.findIn K (.ref C) "__init__" = some (some (.ref fI))
  tyI : PySem.W.typeIn K (.ref fI) = some (.type "function")
  sa : PySem.W.findIn K (.ref C) "__setattr__" = some (some (.builtin "object.__setattr__"))
  tk : PySem.W.takerIn K C f = some none
  hd : PySem.W.hasDictIn K C = true
  pg : PySem.W.specialIn K (.ref P) "__getattribute__" = some (some (.builtin "type.__getattribute__"))
  pt : PySem.W.typeIn K (.ref P) = some (.type "type")
  pr : PySem.W.findIn K (.type "type") "__getattribute__" = some (some (.builtin "type.__getattribute__")) ∧ PySem.W.subIn K (.type "type") (.type "type") = some true
  pv : PySem.W.findCls K (.ref P) (.type "type") "__init__" = some (.val (.builtin (bsI k).2.2.2))

section
variable {prog : Program} {w : World} {A : Around} {R : Result → Shared → Prop} {hp : Heap} {g : Array GenState} {d : Drawn} {tn : Nat} {os : OsState} {K : PySem.W.Frag} {C fI P x t1 : Addr} {f : Str} {k : Nat} {v : Value} {tk : Tok}
end
section
variable {X : Cx} {pins : List (Addr × Obj)} {σ : L2.St} {H : Hp} {s : Shared} {C fI P a : Addr} {f : Str} {k : Nat} {y : V} {u : Value} {E : Value → Shared → Prop} {A : Around}
end
section
variable {X : Cx} {C fI P : Addr} {f x sl m : Str} {k : Nat} {to te : TE} {p1 p2 p3 p4 pos p p' : Pos} {j : Option Str} {o e : Expr}
end
end DM
namespace DM
open PySem PySem.Spec PyProof.Rows L2
variable [LamT]
section
variable {P : Program} {w : World} {K : PySem.W.Frag} {mg : Str → Option Value} {base : Heap} {C fI Pa : Addr} {f x sl ar m qual : Str} {k : Nat} {fd : FuncData} {params : Arguments} {scope : Scope} {p1 p2 p3 p4 p5 p6 p7 p8 p9 p10 : Pos}
end
section
variable {X : Cx} {W : WX} {C fI Pa : Addr} {f c sl ar : Str} {k kk : Nat} {fd : FuncData} {e : Expr} {ta : TA} {p0 pos pos' : Pos}
end
section
variable {X : Cx} {W : WX} {S : SC} {p : Bool} {G G' : List Sh} {fI Pa : Addr} {f c sl ar : Str} {k kk : Nat} {fd : FuncData} {e : Expr} {m : Mi D} {p0 pos pos' : Pos}
end
end DM
namespace DM
open PySem PySem.Spec PyProof.Rows L2
variable [LamT]
/-! ### what the top tells of such classes -/
/-! ### e.f, e an exception -/
theorem RpF.look {K : PySem.W.Frag} {F : FS} {H : Hp} {n : Str} : ∀ {vs : List (Str × V)} {ds : List (Str × D)} {d : D}, RpF K F H vs ds → ds.lookup n = some d → ∃ v, vs.lookup n = some v ∧ Rp K F H v d
  | _, _, d, .nil, e => by cases e
  | _, _, d, .cons (n := q) r rs, e => by
    rw [List.lookup_cons] at e ⊢
    cases h : (n == q) with
    | true => rw [h] at e; cases e; exact ⟨_, rfl, r⟩
    | false => rw [h] at e; exact rs.look e
section
variable {X : Cx} {W : WX} {p : Bool} {G : List Sh} {e : Expr} {f : Str} {ok : Str → Bool} {m : Mi D} {pos : Pos}
end
end DM
namespace DM
open PySem PySem.Spec PyProof.Rows L2
section
variable {α β ω : Type} {C : Cz α ω} {D0 : Cz Ctl ω} {Γ : List Sl} {R : Re ω} {t : Ms}
end
end DM
/-! DmLs: x in d, d a dict: keys whole numbers, texts, or tuples of them. -/
namespace DM
open PySem PySem.Spec PyProof.Rows L2
variable [LamT]
section
variable {X : Cx}
end
end DM
/-! DmLt: NAME.get(k, z) of a table of whole numbers; dict displays with a tuple for a key; d[k] of any dict. -/
namespace DM
open PySem PySem.Spec PyProof.Rows L2
/-! NAME.get(k, z), NAME a dict of texts to whole numbers at the module's top -/
section
variable {X : Cx} {o e f : PySem.Expr} {apos cpos : PySem.Pos} {ty tx : TE} {d : Addr} {es : Array DictEntry} {n : Nat}
end
variable [LamT]
section
variable {X : Cx} {W : WX} {p p1 p2 : Bool} {G : List Sh} {e f : PySem.Expr} {apos cpos q : PySem.Pos} {me mf : Mi D} {x : Str} {tbl : List (Str × Int)}
end
/-! d[k] of any dict -/
section
variable {X : Cx} {W : WX} {p p1 p2 : Bool} {G : List Sh} {pos : PySem.Pos}
end
/-! {(a, b): v} -/
section
variable {X : Cx} {pos : PySem.Pos} {k v : PySem.Expr} {tk tv : TE}
end
section
variable {X : Cx} {W : WX} {p p1 p2 : Bool} {G : List Sh} {pos : PySem.Pos} {k v : PySem.Expr} {mk mv : Mi D}
end
/-! xs.index(y) of plain things -/
section
variable {X : Cx} {W : WX} {p p1 p2 : Bool} {G : List Sh} {o e : PySem.Expr} {apos cpos : PySem.Pos} {mo me : Mi D}
end
section
variable {α β ω : Type} {C : Cz α ω} {Γ : Gm} {kd : D → Mi α} {ma mb : Mi D} {R : Re ω}
end
/-! slices whose bounds change something -/
section
variable {X : Cx} {W : WX} {p p1 p2 p3 : Bool} {G : List Sh} {a : PySem.Expr} {pos q2 : PySem.Pos} {lo hi : Option PySem.Expr}
end
end DM
/-! written by genlv.py: tables of texts -/
namespace DM
open PySem
end DM
/-! written by genlv.py: plain functions of the defs of the program -/
open PySem PySem.Spec PyProof.Rows L2 DM
def Lv.amounts_is_whole (thing1 : D) : Re D :=
  Re.bind (Re.andD (Re.ofO ((bIsi [thing1, (D.v (.ty "int"))]).map D.v) fun z2 => .ok z2) (Re.ofO ((bIsi [thing1, (D.v (.ty "bool"))]).map D.v) fun z3 => Re.ofO (asB z3) fun b4 => .ok (D.bl (!b4)))) fun b5 => .ok b5
def Lv.amounts_is_round (thing1 : D) : Re D :=
  Re.bind (Re.andD (Re.ofO ((bIsi [thing1, (D.v (.ty "str"))]).map D.v) fun z2 => .ok z2) (Re.ofO (opIn thing1 (D.tup [(D.str "down"), (D.str "up"), (D.str "near")])) fun z3 => .ok (D.bl z3))) fun b4 => .ok b4
def Lv.amounts_is_from_to (thing1 least2 most3 : D) : Re D :=
  Re.bind (Re.andD (Re.bind (Lv.amounts_is_whole thing1) fun r4 => .ok r4) (Re.bind (Re.chain (opLe least2 thing1) (Re.ofO (opLe thing1 most3) fun b5 => .ok b5)) fun b6 => .ok (D.bl b6))) fun b7 => .ok b7
def Lv.amounts_is_rate (top_1 bottom2 : D) : Re D :=
  Re.bind (Re.andD (Re.ofO (opSub (D.int 0) (D.int 1000)) fun z3 => Re.bind (Lv.amounts_is_from_to top_1 z3 (D.int 1000)) fun r4 => .ok r4) (Re.bind (Lv.amounts_is_from_to bottom2 (D.int 1) (D.int 1000)) fun r5 => .ok r5)) fun b6 => .ok b6
def Lv.amounts_rounded (top_1 bottom2 way3 : D) : Re D :=
  Re.ofO (opEq way3 (D.str "down")) fun z4 => (if z4 = true then Re.ofO (opFdiv top_1 bottom2) fun z5 => .ok z5 else Re.bind (Re.cond (Re.ofO (opEq way3 (D.str "up")) fun z6 => .ok z6) (Re.ofO (opSub (D.int 0) top_1) fun z7 => Re.ofO (opFdiv z7 bottom2) fun z8 => Re.ofO (opSub (D.int 0) z8) fun z9 => .ok z9) (Re.ofO (opMul (D.int 2) top_1) fun z10 => Re.ofO (opAdd z10 bottom2) fun z11 => Re.ofO (opMul (D.int 2) bottom2) fun z12 => Re.ofO (opFdiv z11 z12) fun z13 => .ok z13)) fun v14 => .ok v14)
def Lv.amounts_is_tuple_of (thing1 least2 most3 : D) : Re D :=
  Re.bind (Re.andD (Re.ofO ((bIsi [thing1, (D.v (.ty "tuple"))]).map D.v) fun z4 => .ok z4) (Re.ofO ((bLen [thing1]).map D.v) fun z5 => Re.bind (Re.chain (opLe least2 z5) (Re.ofO (opLe z5 most3) fun b6 => .ok b6)) fun b7 => .ok (D.bl b7))) fun b8 => .ok b8
def Lv.scales_is_scale_b1 (d15 : D) (b14 : Unit) : Re (Fl Unit D) :=
  Re.bind (Re.or (Re.bind (Lv.amounts_is_tuple_of d15 (D.int 3) (D.int 3)) fun r16 => Re.ofO (asB r16) fun b17 => .ok (!b17)) (Re.bind (Re.or (Re.ofO (ixD d15 (D.int 0)) fun z18 => Re.bind (Lv.amounts_is_from_to z18 (D.int 0) (D.int 1000000000000)) fun r19 => Re.ofO (asB r19) fun b20 => .ok (!b20)) (Re.ofO (ixD d15 (D.int 1)) fun z21 => Re.ofO (ixD d15 (D.int 2)) fun z22 => Re.bind (Lv.amounts_is_rate z21 z22) fun r23 => Re.ofO (asB r23) fun b24 => .ok (!b24))) fun b25 => .ok b25)) fun b26 => (if b26 = true then .ok (.rt (D.bl false)) else .ok (.nx ()))
def Lv.scales_is_scale_l2 (d30 : D) : Re (Option D) :=
  Re.ofO (ixD d30 (D.int 0)) fun z31 => .ok (some z31)
def Lv.scales_is_scale_l3 (d38 : D) : Re (Option D) :=
  un2 d38 fun one39 other40 => Re.ofO (opLt one39 other40) fun z41 => .ok (some (D.bl z41))
def Lv.scales_is_scale (thing1 : D) : Re D :=
  Re.bind (Re.or (Re.bind (Lv.amounts_is_tuple_of thing1 (D.int 2) (D.int 2)) fun r2 => Re.ofO (asB r2) fun b3 => .ok (!b3)) (Re.bind (Re.or (Re.ofO (ixD thing1 (D.int 0)) fun z4 => Re.bind (Lv.amounts_is_round z4) fun r5 => Re.ofO (asB r5) fun b6 => .ok (!b6)) (Re.ofO (ixD thing1 (D.int 1)) fun z7 => Re.bind (Lv.amounts_is_tuple_of z7 (D.int 1) (D.int 8)) fun r8 => Re.ofO (asB r8) fun b9 => .ok (!b9))) fun b10 => .ok b10)) fun b11 => (if b11 = true then .ok (D.bl false) else Re.ofO (ixD thing1 (D.int 1)) fun z12 => Re.ofO (itemsOf z12) fun xs13 => Re.esc (forR (Lv.scales_is_scale_b1) xs13 ()) fun b27 => Re.ofO (ixD thing1 (D.int 1)) fun z28 => Re.ofO (itemsOf z28) fun xs29 => Re.bind (lcGo (Lv.scales_is_scale_l2) xs29) fun xs32 => Re.bind (Re.andD (Re.ofO (ixD (D.lst xs32) (D.int 0)) fun z33 => Re.ofO (opEq z33 (D.int 0)) fun z34 => .ok (D.bl z34)) (Re.ofO (asI (D.int 1)) fun i35 => Re.ofO (slX (D.lst xs32) (some i35) none) fun z36 => Re.ofO (zipB false [(D.lst xs32), z36]) fun xs37 => Re.bind (lcGo (Lv.scales_is_scale_l3) xs37) fun xs42 => Re.ofO ((bAll [(D.lst xs42)]).map D.v) fun z43 => .ok z43)) fun b44 => .ok b44)
def Lv.scales_need_scale (scale1 : D) : Re D :=
  Re.bind (Lv.scales_is_scale scale1) fun r2 => Re.ofO (asB r2) fun b3 => (if (!b3) = true then .exc ⟨"BadScale", []⟩ else .ok D.non)
def Lv.scales_need_whole (amount1 : D) : Re D :=
  Re.bind (Lv.amounts_is_whole amount1) fun r2 => Re.ofO (asB r2) fun b3 => (if (!b3) = true then .exc ⟨"BadAmount", []⟩ else .ok D.non)
def Lv.scales_common_number_c1 (b3 : (D × D)) : Re Bool :=
  Re.ofO (opNe b3.2 (D.int 0)) fun z4 => .ok z4
def Lv.scales_common_number_b1 (b3 : (D × D)) : Re ((D × D)) :=
  Re.ofO (opMod b3.1 b3.2) fun z5 => .ok (b3.2, z5)
def Lv.scales_common_number (one1 other2 : D) : Re D :=
  Re.bind (whP (Lv.scales_common_number_c1) (Lv.scales_common_number_b1) 1000000 (one1, other2)) fun b6 => .ok b6.1
def Lv.scales_own_together_b1 (d6 : D) (b5 : D) : Re (D) :=
  un3 d6 fun begin7 top_8 bottom9 => Re.ofO (opMul b5 bottom9) fun z10 => Re.bind (Lv.scales_common_number b5 bottom9) fun r11 => Re.ofO (opFdiv z10 r11) fun whole12 => .ok whole12
def Lv.scales_own_together_l2 (b13 : D) (d15 : D) : Re (Option D) :=
  un3 d15 fun begin16 top_17 bottom18 => Re.ofO (opFdiv b13 bottom18) fun z19 => Re.ofO (opMul top_17 z19) fun z20 => .ok (some (D.tup [begin16, z20]))
def Lv.scales_own_together (scale1 : D) : Re D :=
  un2 scale1 fun way2 rows_3 => Re.ofO (itemsOf rows_3) fun xs4 => Re.bind (forP (Lv.scales_own_together_b1) xs4 (D.int 1)) fun b13 => Re.ofO (itemsOf rows_3) fun xs14 => Re.bind (lcGo (Lv.scales_own_together_l2 b13) xs14) fun xs21 => Re.ofO (tupD (D.lst xs21)) fun z22 => .ok (D.tup [way2, b13, z22])
def Lv.scales_scale_together (scale1 : D) : Re D :=
  Re.bind (Lv.scales_need_scale scale1) fun r2 => Re.bind (Lv.scales_own_together scale1) fun r3 => .ok r3
def Lv.scales_own_tax_l1 (d11 : D) : Re (Option D) :=
  Re.ofO (ixD d11 (D.int 0)) fun z12 => .ok (some z12)
def Lv.scales_own_tax_b2 (amount2 : D) (d17 : D) (b16 : D) : Re (D) :=
  un2 d17 fun x18 end_19 => un2 x18 fun begin20 top_21 => Re.ofO (opGt amount2 begin20) fun z22 => (if z22 = true then Re.ofO ((bMin [amount2, end_19]).map D.v) fun z23 => Re.ofO (opSub z23 begin20) fun z24 => Re.ofO (opMul z24 top_21) fun z25 => Re.ofO (opIadd b16 z25) fun total26 => .ok total26 else .ok b16)
def Lv.scales_own_tax (scale1 amount2 : D) : Re D :=
  Re.ofO (opLe amount2 (D.int 0)) fun z3 => (if z3 = true then .ok (D.int 0) else Re.bind (Lv.scales_own_together scale1) fun r4 => un3 r4 fun way5 bottom6 rows_7 => Re.ofO (asI (D.int 1)) fun i8 => Re.ofO (slX rows_7 (some i8) none) fun z9 => Re.ofO (itemsOf z9) fun xs10 => Re.bind (lcGo (Lv.scales_own_tax_l1) xs10) fun xs13 => Re.ofO (opAdd (D.lst xs13) (D.lst [amount2])) fun ends14 => Re.ofO (zipB true [rows_7, ends14]) fun xs15 => Re.bind (forP (Lv.scales_own_tax_b2 amount2) xs15 (D.int 0)) fun b27 => Re.bind (Lv.amounts_rounded b27 bottom6 way5) fun r28 => .ok r28)
def Lv.scales_tax (scale1 amount2 : D) : Re D :=
  Re.bind (Lv.scales_need_scale scale1) fun r3 => Re.bind (Lv.scales_need_whole amount2) fun r4 => Re.bind (Lv.scales_own_tax scale1 amount2) fun r5 => .ok r5
def Lv.scales_bracket_l1 (amount2 : D) (d8 : D) : Re (Option D) :=
  Re.ofO (ixD d8 (D.int 0)) fun z9 => Re.ofO (opLt z9 amount2) fun z10 => if z10 = true then .ok (some d8) else .ok none
def Lv.scales_bracket (scale1 amount2 : D) : Re D :=
  Re.bind (Lv.scales_need_scale scale1) fun r3 => Re.bind (Lv.scales_need_whole amount2) fun r4 => Re.ofO (opLe amount2 (D.int 0)) fun z5 => (if z5 = true then .ok D.non else Re.ofO (ixD scale1 (D.int 1)) fun z6 => Re.ofO (itemsOf z6) fun xs7 => Re.bind (lcGo (Lv.scales_bracket_l1 amount2) xs7) fun xs11 => Re.ofO ((bLen [(D.lst xs11)]).map D.v) fun z12 => Re.ofO (opSub z12 (D.int 1)) fun z13 => .ok z13)
/-! written by gen.py: the mirrors of the defs, and that each def does what its mirror tells -/
namespace Gk13
open PySem PySem.Spec PyProof.Rows L2 DM

def top (i : Nat) : Stmt := PySem.Challenge.pw_leviesbook_k13_whole_taxes_turned_and_pa.main.body.getD i (.Pass ⟨0, 0, 0, 0⟩)
abbrev st_is_whole : Stmt := top 9
abbrev st_is_from_to : Stmt := top 10
abbrev st_is_tuple_of : Stmt := top 11
abbrev st_is_round : Stmt := top 12
abbrev st_is_rate : Stmt := top 13
abbrev st_rounded : Stmt := top 14
abbrev st_is_scale : Stmt := top 18
abbrev st_need_scale : Stmt := top 19
abbrev st_need_whole : Stmt := top 20
abbrev st_common_number : Stmt := top 21
abbrev st_own_together : Stmt := top 22
abbrev st_scale_together : Stmt := top 23
abbrev st_own_tax : Stmt := top 24
abbrev st_tax : Stmt := top 25
abbrev st_bracket : Stmt := top 26
abbrev st__law_cell : Stmt := top 28
abbrev st__law_scale : Stmt := top 29
abbrev st__law_turned : Stmt := top 30
abbrev st__law_beyond : Stmt := top 31
abbrev st__law_with_row : Stmt := top 32
abbrev st__law_right : Stmt := top 33
abbrev st_law : Stmt := top 34
theorem sc_is_whole : FnScope ["thing"] ["thing"] (defScope st_is_whole) := ⟨rfl, rfl, rfl, by decide +kernel, rfl, by decide +kernel, by decide +kernel⟩
theorem sc_is_from_to : FnScope ["thing", "least", "most"] ["thing", "least", "most"] (defScope st_is_from_to) := ⟨rfl, rfl, rfl, by decide +kernel, rfl, by decide +kernel, by decide +kernel⟩
theorem sc_is_tuple_of : FnScope ["thing", "least", "most"] ["thing", "least", "most"] (defScope st_is_tuple_of) := ⟨rfl, rfl, rfl, by decide +kernel, rfl, by decide +kernel, by decide +kernel⟩
theorem sc_is_round : FnScope ["thing"] ["thing"] (defScope st_is_round) := ⟨rfl, rfl, rfl, by decide +kernel, rfl, by decide +kernel, by decide +kernel⟩
theorem sc_is_rate : FnScope ["top", "bottom"] ["top", "bottom"] (defScope st_is_rate) := ⟨rfl, rfl, rfl, by decide +kernel, rfl, by decide +kernel, by decide +kernel⟩
theorem sc_rounded : FnScope ["top", "bottom", "way"] ["top", "bottom", "way"] (defScope st_rounded) := ⟨rfl, rfl, rfl, by decide +kernel, rfl, by decide +kernel, by decide +kernel⟩
theorem sc_is_scale : FnScope ["thing", "row", "begins", "one", "other"] ["thing"] (defScope st_is_scale) := ⟨rfl, rfl, rfl, by decide +kernel, rfl, by decide +kernel, by decide +kernel⟩
theorem sc_need_scale : FnScope ["scale"] ["scale"] (defScope st_need_scale) := ⟨rfl, rfl, rfl, by decide +kernel, rfl, by decide +kernel, by decide +kernel⟩
theorem sc_need_whole : FnScope ["amount"] ["amount"] (defScope st_need_whole) := ⟨rfl, rfl, rfl, by decide +kernel, rfl, by decide +kernel, by decide +kernel⟩
theorem sc_common_number : FnScope ["one", "other"] ["one", "other"] (defScope st_common_number) := ⟨rfl, rfl, rfl, by decide +kernel, rfl, by decide +kernel, by decide +kernel⟩
theorem sc_own_together : FnScope ["scale", "way", "rows", "whole", "begin", "top", "bottom"] ["scale"] (defScope st_own_together) := ⟨rfl, rfl, rfl, by decide +kernel, rfl, by decide +kernel, by decide +kernel⟩
theorem sc_scale_together : FnScope ["scale"] ["scale"] (defScope st_scale_together) := ⟨rfl, rfl, rfl, by decide +kernel, rfl, by decide +kernel, by decide +kernel⟩
theorem sc_own_tax : FnScope ["scale", "amount", "way", "bottom", "rows", "ends", "total", "begin", "top", "end", "row"] ["scale", "amount"] (defScope st_own_tax) := ⟨rfl, rfl, rfl, by decide +kernel, rfl, by decide +kernel, by decide +kernel⟩
theorem sc_tax : FnScope ["scale", "amount"] ["scale", "amount"] (defScope st_tax) := ⟨rfl, rfl, rfl, by decide +kernel, rfl, by decide +kernel, by decide +kernel⟩
theorem sc_bracket : FnScope ["scale", "amount", "row"] ["scale", "amount"] (defScope st_bracket) := ⟨rfl, rfl, rfl, by decide +kernel, rfl, by decide +kernel, by decide +kernel⟩
theorem sc__law_cell : FnScope ["_law_cells", "_law_spot", "_law_k", "_law_base", "_law_own", "_law_turn"] ["_law_cells", "_law_spot"] (defScope st__law_cell) := ⟨rfl, rfl, rfl, by decide +kernel, rfl, by decide +kernel, by decide +kernel⟩
theorem sc__law_scale : FnScope ["_law_cells", "_law_spot", "_law_n", "_law_m", "_law_begins", "_law_rows", "_law_k", "_law_step", "_law_begin", "_law_d", "_law_bottom_so"] ["_law_cells", "_law_spot"] (defScope st__law_scale) := ⟨rfl, rfl, rfl, by decide +kernel, rfl, by decide +kernel, by decide +kernel⟩
theorem sc__law_turned : FnScope ["_law_scale_so", "_law_round_so", "_law_rows", "_law_a", "_law_b", "_law_c"] ["_law_scale_so"] (defScope st__law_turned) := ⟨rfl, rfl, rfl, by decide +kernel, rfl, by decide +kernel, by decide +kernel⟩
theorem sc__law_beyond : FnScope ["_law_scale_so", "_law_border", "_law_round_so", "_law_rows", "_law_here", "_law_rest", "_law_row"] ["_law_scale_so", "_law_border"] (defScope st__law_beyond) := ⟨rfl, rfl, rfl, by decide +kernel, rfl, by decide +kernel, by decide +kernel⟩
theorem sc__law_with_row : FnScope ["_law_scale_so", "_law_border", "_law_round_so", "_law_rows", "_law_low", "_law_high", "_law_row"] ["_law_scale_so", "_law_border"] (defScope st__law_with_row) := ⟨rfl, rfl, rfl, by decide +kernel, rfl, by decide +kernel, by decide +kernel⟩
theorem sc__law_right : FnScope ["_law_scale_so", "_law_amount_so", "_law_border", "_law_one", "_law_other", "_law_both", "_law_below", "_law_round_so", "_law_whole", "_law_rows", "_law_row"] ["_law_scale_so", "_law_amount_so", "_law_border"] (defScope st__law_right) := ⟨rfl, rfl, rfl, by decide +kernel, rfl, by decide +kernel, by decide +kernel⟩
theorem sc_law : FnScope ["_law_script", "_law_spot", "_law_turn", "_law_scale_so", "_law_n", "_law_row", "_law_amount_so", "_law_border"] ["_law_script"] (defScope st_law) := ⟨rfl, rfl, rfl, by decide +kernel, rfl, by decide +kernel, by decide +kernel⟩
/-! ### mirrors -/
/- slots of is_whole: 0 thing -/
def b_is_whole : Ms := sRet (eAnd (eB bIsi (aCons (eVar 0) (aCons (eK (.v (.ty "int"))) (aNil)))) (eNot (eB bIsi (aCons (eVar 0) (aCons (eK (.v (.ty "bool"))) (aNil))))))
def mf_is_whole : Mf := mfOf 1 [.fz] (.fz) b_is_whole
/- slots of is_from_to: 0 thing, 1 least, 2 most -/
def b_is_from_to : Ms := sRet (eAnd (eCall mf_is_whole [0] (aCons (eVar 0) (aNil)) (aNil)) (eChain opLe opLe (eVar 1) (eVar 0) (eVar 2)))
def mf_is_from_to : Mf := mfOf 3 [.fz, .fz, .fz] (.fz) b_is_from_to
/- slots of is_tuple_of: 0 thing, 1 least, 2 most -/
def b_is_tuple_of : Ms := sRet (eAnd (eB bIsi (aCons (eVar 0) (aCons (eK (.v (.ty "tuple"))) (aNil)))) (eChain opLe opLe (eVar 1) (eB bLen (aCons (eVar 0) aNil)) (eVar 2)))
def mf_is_tuple_of : Mf := mfOf 3 [.fz, .fz, .fz] (.fz) b_is_tuple_of
/- slots of is_round: 0 thing -/
def b_is_round : Ms := sRet (eAnd (eB bIsi (aCons (eVar 0) (aCons (eK (.v (.ty "str"))) (aNil)))) (eCmp opIn (eVar 0) (eTup (aCons (eK (.str "down")) (aCons (eK (.str "up")) (aCons (eK (.str "near")) (aNil)))))))
def mf_is_round : Mf := mfOf 1 [.fz] (.fz) b_is_round
/- slots of is_rate: 0 top, 1 bottom -/
def b_is_rate : Ms := sRet (eAnd (eCall mf_is_from_to [0, 1, 2] (aCons (eVar 0) (aCons (eOp opSub (eK (.int 0)) (eK (.int 1000))) (aCons (eK (.int 1000)) (aNil)))) (aNil)) (eCall mf_is_from_to [0, 1, 2] (aCons (eVar 1) (aCons (eK (.int 1)) (aCons (eK (.int 1000)) (aNil)))) (aNil)))
def mf_is_rate : Mf := mfOf 2 [.fz, .fz] (.fz) b_is_rate
/- slots of rounded: 0 top, 1 bottom, 2 way -/
def b_rounded : Ms := sSeq (sIf (tCp opEq (eVar 2) (eK (.str "down"))) (sRet (eOp opFdiv (eVar 0) (eVar 1))) (sNil)) (sRet (eIf (tCp opEq (eVar 2) (eK (.str "up"))) (eOp opSub (eK (.int 0)) (eOp opFdiv (eOp opSub (eK (.int 0)) (eVar 0)) (eVar 1))) (eOp opFdiv (eOp opAdd (eOp opMul (eK (.int 2)) (eVar 0)) (eVar 1)) (eOp opMul (eK (.int 2)) (eVar 1)))))
def mf_rounded : Mf := mfOf 3 [.fz, .fz, .fz] (.fz) b_rounded
/- slots of is_scale: 0 thing, 1 row, 2 begins, 3 one, 4 other -/
def b_is_scale : Ms := sSeq (sIf (tOrM (tNotM (tVal (eCall mf_is_tuple_of [0, 1, 2] (aCons (eVar 0) (aCons (eK (.int 2)) (aCons (eK (.int 2)) (aNil)))) (aNil)))) (tOrM (tNotM (tVal (eCall mf_is_round [0] (aCons (eIx (eVar 0) (eK (.int 0))) (aNil)) (aNil)))) (tNotM (tVal (eCall mf_is_tuple_of [0, 1, 2] (aCons (eIx (eVar 0) (eK (.int 1))) (aCons (eK (.int 1)) (aCons (eK (.int 8)) (aNil)))) (aNil)))))) (sRet (eK (.bl false))) (sNil)) (sSeq (sFor (iVal (eIx (eVar 0) (eK (.int 1)))) (gNm 1) (sSeq (sIf (tOrM (tNotM (tVal (eCall mf_is_tuple_of [0, 1, 2] (aCons (eVar 1) (aCons (eK (.int 3)) (aCons (eK (.int 3)) (aNil)))) (aNil)))) (tOrM (tNotM (tVal (eCall mf_is_from_to [0, 1, 2] (aCons (eIx (eVar 1) (eK (.int 0))) (aCons (eK (.int 0)) (aCons (eK (.int 1000000000000)) (aNil)))) (aNil)))) (tNotM (tVal (eCall mf_is_rate [0, 1] (aCons (eIx (eVar 1) (eK (.int 1))) (aCons (eIx (eVar 1) (eK (.int 2))) (aNil))) (aNil)))))) (sRet (eK (.bl false))) (sNil)) (sNil))) (sSeq (sSet 2 (eLc [1] (iVal (eIx (eVar 0) (eK (.int 1)))) (gNm 1) (tYesM) (eIx (eVar 1) (eK (.int 0))))) (sRet (eAnd (eCmp opEq (eIx (eVar 2) (eK (.int 0))) (eK (.int 0))) (eB bAll (aCons (eLc [3, 4] (iZipBM false (aCons (eVar 2) (aCons (eSl slX (eVar 2) (oSome (eK (.int 1))) (oNone)) (aNil)))) (gTupM 2 (gsCons (gNm 3) (gsCons (gNm 4) (gsNil)))) (tYesM) (eCmp opLt (eVar 3) (eVar 4))) aNil))))))
def mf_is_scale : Mf := mfOf 5 [.fz] (.fz) b_is_scale
/- slots of need_scale: 0 scale -/
def b_need_scale : Ms := sSeq (sIf (tNotM (tVal (eCall mf_is_scale [0] (aCons (eVar 0) (aNil)) (aNil)))) (sRaise "BadScale") (sNil)) (sNil)
def mf_need_scale : Mf := mfOf 1 [.fz] (.fz) b_need_scale
/- slots of need_whole: 0 amount -/
def b_need_whole : Ms := sSeq (sIf (tNotM (tVal (eCall mf_is_whole [0] (aCons (eVar 0) (aNil)) (aNil)))) (sRaise "BadAmount") (sNil)) (sNil)
def mf_need_whole : Mf := mfOf 1 [.fz] (.fz) b_need_whole
/- slots of common_number: 0 one, 1 other -/
def b_common_number : Ms := sSeq (sWh (fun _ => 1000000) (tCp opNe (eVar 1) (eK (.int 0))) (sSeq (sPar [0, 1] (aCons (eVar 1) (aCons (eOp opMod (eVar 0) (eVar 1)) (aNil)))) (sNil))) (sRet (eVar 0))
def mf_common_number : Mf := mfOf 2 [.fz, .fz] (.fz) b_common_number
/- slots of own_together: 0 scale, 1 way, 2 rows, 3 whole, 4 begin, 5 top, 6 bottom -/
def b_own_together : Ms := sSeq (sAsg (eVar 0) (gTupM 2 (gsCons (gNm 1) (gsCons (gNm 2) (gsNil))))) (sSeq (sSet 3 (eK (.int 1))) (sSeq (sFor (iVal (eVar 2)) (gTupM 3 (gsCons (gNm 4) (gsCons (gNm 5) (gsCons (gNm 6) (gsNil))))) (sSeq (sSet 3 (eOp opFdiv (eOp opMul (eVar 3) (eVar 6)) (eCall mf_common_number [0, 1] (aCons (eVar 3) (aCons (eVar 6) (aNil))) (aNil)))) (sNil))) (sRet (eTup (aCons (eVar 1) (aCons (eVar 3) (aCons (eUn tupD (eLc [4, 5, 6] (iVal (eVar 2)) (gTupM 3 (gsCons (gNm 4) (gsCons (gNm 5) (gsCons (gNm 6) (gsNil))))) (tYesM) (eTup (aCons (eVar 4) (aCons (eOp opMul (eVar 5) (eOp opFdiv (eVar 3) (eVar 6))) (aNil)))))) (aNil))))))))
def mf_own_together : Mf := mfOf 7 [.fz] (.fz) b_own_together
/- slots of scale_together: 0 scale -/
def b_scale_together : Ms := sSeq (sExp (eCall mf_need_scale [0] (aCons (eVar 0) (aNil)) (aNil))) (sRet (eCall mf_own_together [0] (aCons (eVar 0) (aNil)) (aNil)))
def mf_scale_together : Mf := mfOf 1 [.fz] (.fz) b_scale_together
/- slots of own_tax: 0 scale, 1 amount, 2 way, 3 bottom, 4 rows, 5 ends, 6 total, 7 begin, 8 top, 9 end, 10 row -/
def b_own_tax : Ms := sSeq (sIf (tCp opLe (eVar 1) (eK (.int 0))) (sRet (eK (.int 0))) (sNil)) (sSeq (sAsg (eCall mf_own_together [0] (aCons (eVar 0) (aNil)) (aNil)) (gTupM 3 (gsCons (gNm 2) (gsCons (gNm 3) (gsCons (gNm 4) (gsNil)))))) (sSeq (sSet 5 (eOp opAdd (eLc [10] (iVal (eSl slX (eVar 4) (oSome (eK (.int 1))) (oNone))) (gNm 10) (tYesM) (eIx (eVar 10) (eK (.int 0)))) (eLst (aCons (eVar 1) (aNil))))) (sSeq (sSet 6 (eK (.int 0))) (sSeq (sFor (iZipBM true (aCons (eVar 4) (aCons (eVar 5) (aNil)))) (gTupM 2 (gsCons (gTupM 2 (gsCons (gNm 7) (gsCons (gNm 8) (gsNil)))) (gsCons (gNm 9) (gsNil)))) (sSeq (sIf (tCp opGt (eVar 1) (eVar 7)) (sSeq (sAug 6 opIadd (eOp opMul (eOp opSub (eB bMin (aCons (eVar 1) (aCons (eVar 9) (aNil)))) (eVar 7)) (eVar 8))) (sNil)) (sNil)) (sNil))) (sRet (eCall mf_rounded [0, 1, 2] (aCons (eVar 6) (aCons (eVar 3) (aCons (eVar 2) (aNil)))) (aNil)))))))
def mf_own_tax : Mf := mfOf 11 [.fz, .fz] (.fz) b_own_tax
/- slots of tax: 0 scale, 1 amount -/
def b_tax : Ms := sSeq (sExp (eCall mf_need_scale [0] (aCons (eVar 0) (aNil)) (aNil))) (sSeq (sExp (eCall mf_need_whole [0] (aCons (eVar 1) (aNil)) (aNil))) (sRet (eCall mf_own_tax [0, 1] (aCons (eVar 0) (aCons (eVar 1) (aNil))) (aNil))))
def mf_tax : Mf := mfOf 2 [.fz, .fz] (.fz) b_tax
/- slots of bracket: 0 scale, 1 amount, 2 row -/
def b_bracket : Ms := sSeq (sExp (eCall mf_need_scale [0] (aCons (eVar 0) (aNil)) (aNil))) (sSeq (sExp (eCall mf_need_whole [0] (aCons (eVar 1) (aNil)) (aNil))) (sSeq (sIf (tCp opLe (eVar 1) (eK (.int 0))) (sRet (eK .non)) (sNil)) (sRet (eOp opSub (eB bLen (aCons (eLc [2] (iVal (eIx (eVar 0) (eK (.int 1)))) (gNm 2) (tCp opLt (eIx (eVar 2) (eK (.int 0))) (eVar 1)) (eVar 2)) aNil)) (eK (.int 1))))))
def mf_bracket : Mf := mfOf 3 [.fz, .fz] (.fz) b_bracket
/- slots of _law_cell: 0 _law_cells, 1 _law_spot, 2 _law_k, 3 _law_base, 4 _law_own, 5 _law_turn -/
def b__law_cell : Ms := sSeq (sAsg (eOp opAdd (eIx (eVar 1) (eK (.int 0))) (eK (.int 1))) (gSet 1 (eK (.int 0)))) (sSeq (sSet 2 (eIx (eVar 1) (eK (.int 0)))) (sSeq (sSet 3 (eOp opAdd (eOp opMul (eOp opMul (eK (.int 31)) (eVar 2)) (eVar 2)) (eOp opMul (eK (.int 7919)) (eVar 2)))) (sSeq (sIf (tAndM (tCp opGt (eB bLen (aCons (eVar 0) aNil)) (eK (.int 0))) (tAndM (tCp opGe (eIx (eVar 0) (eOp opMod (eVar 2) (eB bLen (aCons (eVar 0) aNil)))) (eOp opPow (eK (.int 10)) (eK (.int 18)))) (tCp opLt (eOp opFdiv (eVar 2) (eB bLen (aCons (eVar 0) aNil))) (eK (.int 60))))) (sSeq (sSet 4 (eIx (eVar 0) (eOp opMod (eVar 2) (eB bLen (aCons (eVar 0) aNil))))) (sSeq (sFor (iRng (aCons (eOp opFdiv (eVar 2) (eB bLen (aCons (eVar 0) aNil))) (aNil))) (gNm 5) (sSeq (sSet 4 (eOp opFdiv (eVar 4) (eK (.int 306783379)))) (sNil))) (sSeq (sIf (tCp opGt (eVar 4) (eK (.int 0))) (sRet (eOp opMod (eVar 4) (eK (.int 306783379)))) (sNil)) (sNil)))) (sNil)) (sSeq (sIf (tCp opGt (eB bLen (aCons (eVar 0) aNil)) (eK (.int 0))) (sSeq (sSet 3 (eOp opAdd (eVar 3) (eOp opMul (eOp opMod (eIx (eVar 0) (eOp opMod (eVar 2) (eB bLen (aCons (eVar 0) aNil)))) (eK (.int 2147483629))) (eOp opAdd (eK (.int 1)) (eOp opFdiv (eVar 2) (eB bLen (aCons (eVar 0) aNil))))))) (sNil)) (sNil)) (sRet (eOp opFdiv (eOp opMod (eOp opPow (eOp opMod (eVar 3) (eK (.int 2147483647))) (eK (.int 5))) (eK (.int 2147483647))) (eK (.int 7))))))))
def mf__law_cell : Mf := mfOf 6 [.fz, .lst .fz] (.fz) b__law_cell
/- slots of _law_scale: 0 _law_cells, 1 _law_spot, 2 _law_n, 3 _law_m, 4 _law_begins, 5 _law_rows, 6 _law_k, 7 _law_step, 8 _law_begin, 9 _law_d, 10 _law_bottom_so -/
def b__law_scale : Ms := sSeq (sPar [2, 3] (aCons (eCallG mf__law_cell (gVal (eVar 0) (gOwn 1 (gNil)))) (aCons (eCallG mf__law_cell (gVal (eVar 0) (gOwn 1 (gNil)))) (aNil)))) (sSeq (sPar [4, 5] (aCons (eLst (aCons (eK (.int 0)) (aNil))) (aCons (eLst (aNil)) (aNil)))) (sSeq (sFor (iRng (aCons (eIx (eLst (aCons (eK (.int 0)) (aCons (eK (.int 1)) (aCons (eK (.int 2)) (aCons (eK (.int 3)) (aCons (eK (.int 7)) (aCons (eK (.int 4)) (aCons (eK (.int 2)) (aNil))))))))) (eOp opMod (eVar 2) (eK (.int 7)))) (aNil))) (gNm 6) (sSeq (sSet 7 (eCallG mf__law_cell (gVal (eVar 0) (gOwn 1 (gNil))))) (sSeq (sExp (eMut 4 mAppend (aCons (eOp opAdd (eOp opAdd (eIx (eVar 4) (eUn opNeg (eK (.int 1)))) (eK (.int 1))) (eIx (eLst (aCons (eOp opMod (eVar 7) (eK (.int 9))) (aCons (eOp opMod (eVar 7) (eK (.int 1000))) (aCons (eOp opMod (eVar 7) (eOp opPow (eK (.int 10)) (eK (.int 6)))) (aNil))))) (eOp opMod (eOp opFdiv (eVar 7) (eK (.int 9))) (eK (.int 3))))) (aNil)))) (sNil)))) (sSeq (sFor (iEnumAM (aCons (eVar 4) (aNil))) (gTupM 2 (gsCons (gNm 6) (gsCons (gNm 8) (gsNil)))) (sSeq (sSet 9 (eCallG mf__law_cell (gVal (eVar 0) (gOwn 1 (gNil))))) (sSeq (sSet 10 (eIx (eLst (aCons (eK (.int 100)) (aCons (eK (.int 10)) (aCons (eOp opAdd (eK (.int 1)) (eOp opMod (eVar 9) (eK (.int 1000)))) (aCons (eK (.int 3)) (aCons (eK (.int 1)) (aCons (eK (.int 7)) (aNil)))))))) (eOp opMod (eOp opFdiv (eVar 9) (eK (.int 1000))) (eK (.int 6))))) (sSeq (sExp (eMut 5 mAppend (aCons (eTup (aCons (eVar 8) (aCons (eIx (eLst (aCons (eOp opMod (eVar 9) (eK (.int 61))) (aCons (eOp opSub (eOp opMod (eVar 9) (eK (.int 2001))) (eK (.int 1000))) (aCons (eK (.int 0)) (aCons (eOp opMod (eVar 9) (eK (.int 11))) (aNil)))))) (eOp opMod (eOp opFdiv (eVar 9) (eK (.int 6000))) (eK (.int 4)))) (aCons (eVar 10) (aNil))))) (aNil)))) (sNil))))) (sRet (eTup (aCons (eIx (eLst (aCons (eK (.str "down")) (aCons (eK (.str "up")) (aCons (eK (.str "near")) (aNil))))) (eOp opMod (eVar 3) (eK (.int 3)))) (aCons (eUn tupD (eVar 5)) (aNil))))))))
def mf__law_scale : Mf := mfOf 11 [.fz, .lst .fz] (.fz) b__law_scale
/- slots of _law_turned: 0 _law_scale_so, 1 _law_round_so, 2 _law_rows, 3 _law_a, 4 _law_b, 5 _law_c -/
def b__law_turned : Ms := sSeq (sAsg (eVar 0) (gTupM 2 (gsCons (gNm 1) (gsCons (gNm 2) (gsNil))))) (sRet (eTup (aCons (eOp dgetD (eDisp [.inr "down", .inr "up", .inr "near"] (aCons (eK (.str "up")) (aCons (eK (.str "down")) (aCons (eK (.str "near")) (aNil))))) (eVar 1)) (aCons (eUn tupD (eLc [3, 4, 5] (iVal (eVar 2)) (gTupM 3 (gsCons (gNm 3) (gsCons (gNm 4) (gsCons (gNm 5) (gsNil))))) (tYesM) (eTup (aCons (eVar 3) (aCons (eUn opNeg (eVar 4)) (aCons (eVar 5) (aNil))))))) (aNil)))))
def mf__law_turned : Mf := mfOf 6 [.fz] (.fz) b__law_turned
/- slots of _law_beyond: 0 _law_scale_so, 1 _law_border, 2 _law_round_so, 3 _law_rows, 4 _law_here, 5 _law_rest, 6 _law_row -/
def b__law_beyond : Ms := sSeq (sAsg (eVar 0) (gTupM 2 (gsCons (gNm 2) (gsCons (gNm 3) (gsNil))))) (sSeq (sSet 4 (eIx (eLc [6] (iVal (eVar 3)) (gNm 6) (tCp opLe (eIx (eVar 6) (eK (.int 0))) (eVar 1)) (eVar 6)) (eUn opNeg (eK (.int 1))))) (sSeq (sSet 5 (eLc [6] (iVal (eVar 3)) (gNm 6) (tCp opGt (eIx (eVar 6) (eK (.int 0))) (eVar 1)) (eOp opAdd (eTup (aCons (eOp opSub (eIx (eVar 6) (eK (.int 0))) (eVar 1)) (aNil))) (eSl slX (eVar 6) (oSome (eK (.int 1))) (oNone))))) (sRet (eTup (aCons (eVar 2) (aCons (eOp opAdd (eTup (aCons (eOp opAdd (eTup (aCons (eK (.int 0)) (aNil))) (eSl slX (eVar 4) (oSome (eK (.int 1))) (oNone))) (aNil))) (eUn tupD (eVar 5))) (aNil)))))))
def mf__law_beyond : Mf := mfOf 7 [.fz, .fz] (.fz) b__law_beyond
/- slots of _law_with_row: 0 _law_scale_so, 1 _law_border, 2 _law_round_so, 3 _law_rows, 4 _law_low, 5 _law_high, 6 _law_row -/
def b__law_with_row : Ms := sSeq (sAsg (eVar 0) (gTupM 2 (gsCons (gNm 2) (gsCons (gNm 3) (gsNil))))) (sSeq (sPar [4, 5] (aCons (eLc [6] (iVal (eVar 3)) (gNm 6) (tCp opLe (eIx (eVar 6) (eK (.int 0))) (eVar 1)) (eVar 6)) (aCons (eLc [6] (iVal (eVar 3)) (gNm 6) (tCp opGt (eIx (eVar 6) (eK (.int 0))) (eVar 1)) (eVar 6)) (aNil)))) (sSeq (sIf (tOrM (tCp opEq (eIx (eIx (eVar 4) (eUn opNeg (eK (.int 1)))) (eK (.int 0))) (eVar 1)) (tCp opGt (eB bLen (aCons (eVar 3) aNil)) (eK (.int 7)))) (sRet (eVar 0)) (sNil)) (sRet (eTup (aCons (eVar 2) (aCons (eOp opAdd (eOp opAdd (eUn tupD (eVar 4)) (eTup (aCons (eOp opAdd (eTup (aCons (eVar 1) (aNil))) (eSl slX (eIx (eVar 4) (eUn opNeg (eK (.int 1)))) (oSome (eK (.int 1))) (oNone))) (aNil)))) (eUn tupD (eVar 5))) (aNil)))))))
def mf__law_with_row : Mf := mfOf 7 [.fz, .fz] (.fz) b__law_with_row
/- slots of _law_right: 0 _law_scale_so, 1 _law_amount_so, 2 _law_border, 3 _law_one, 4 _law_other, 5 _law_both, 6 _law_below, 7 _law_round_so, 8 _law_whole, 9 _law_rows, 10 _law_row -/
def b__law_right : Ms := sSeq (sPar [3, 4] (aCons (eCall mf_tax [0, 1] (aCons (eVar 0) (aCons (eVar 1) (aNil))) (aNil)) (aCons (eCall mf_tax [0, 1] (aCons (eCall mf__law_turned [0] (aCons (eVar 0) (aNil)) (aNil)) (aCons (eVar 1) (aNil))) (aNil)) (aNil)))) (sSeq (sIf (tAndM (tCp opNe (eIx (eVar 0) (eK (.int 0))) (eK (.str "near"))) (tCp opNe (eVar 3) (eUn opNeg (eVar 4)))) (sRet (eK (.bl false))) (sNil)) (sSeq (sIf (tOrM (tCp opNe (eCall mf_tax [0, 1] (aCons (eCall mf__law_with_row [0, 1] (aCons (eVar 0) (aCons (eVar 2) (aNil))) (aNil)) (aCons (eVar 1) (aNil))) (aNil)) (eVar 3)) (tNotM (tVal (eCall mf_is_scale [0] (aCons (eCall mf__law_with_row [0, 1] (aCons (eVar 0) (aCons (eVar 2) (aNil))) (aNil)) (aNil)) (aNil))))) (sRet (eK (.bl false))) (sNil)) (sSeq (sSet 5 (eOp opAdd (eCall mf_tax [0, 1] (aCons (eVar 0) (aCons (eB bMin (aCons (eVar 1) (aCons (eVar 2) (aNil)))) (aNil))) (aNil)) (eCall mf_tax [0, 1] (aCons (eCall mf__law_beyond [0, 1] (aCons (eVar 0) (aCons (eVar 2) (aNil))) (aNil)) (aCons (eOp opSub (eVar 1) (eVar 2)) (aNil))) (aNil)))) (sSeq (sIf (tNotM (tChn opLe opLe (eUn opNeg (eK (.int 1))) (eOp opSub (eVar 5) (eVar 3)) (eK (.int 1)))) (sRet (eK (.bl false))) (sNil)) (sSeq (sSet 6 (eLc [10] (iVal (eIx (eVar 0) (eK (.int 1)))) (gNm 10) (tCp opLt (eIx (eVar 10) (eK (.int 1))) (eK (.int 0))) (eVar 10))) (sSeq (sIf (tAndM (tCp opEq (eVar 6) (eLst (aNil))) (tNotM (tChn opLe opLe (eCall mf_tax [0, 1] (aCons (eVar 0) (aCons (eOp opSub (eVar 1) (eK (.int 1))) (aNil))) (aNil)) (eVar 3) (eCall mf_tax [0, 1] (aCons (eVar 0) (aCons (eOp opAdd (eVar 1) (eK (.int 1))) (aNil))) (aNil))))) (sRet (eK (.bl false))) (sNil)) (sSeq (sAsg (eCall mf_scale_together [0] (aCons (eVar 0) (aNil)) (aNil)) (gTupM 3 (gsCons (gNm 7) (gsCons (gNm 8) (gsCons (gNm 9) (gsNil)))))) (sSeq (sIf (tOrM (tCp opGt (eVar 8) (eK (.int 1000))) (tCp opNe (eLc [10] (iVal (eVar 9)) (gNm 10) (tCp opGt (eB bAbs (aCons (eIx (eVar 10) (eK (.int 1))) aNil)) (eK (.int 1000))) (eVar 10)) (eLst (aNil)))) (sRet (eK (.bl true))) (sNil)) (sRet (eCmp opEq (eCall mf_tax [0, 1] (aCons (eTup (aCons (eVar 7) (aCons (eUn tupD (eLc [10] (iVal (eVar 9)) (gNm 10) (tYesM) (eOp opAdd (eVar 10) (eTup (aCons (eVar 8) (aNil)))))) (aNil)))) (aCons (eVar 1) (aNil))) (aNil)) (eVar 3)))))))))))
def mf__law_right : Mf := mfOf 11 [.fz, .fz, .fz] (.fz) b__law_right
/- slots of law: 0 _law_script, 1 _law_spot, 2 _law_turn, 3 _law_scale_so, 4 _law_n, 5 _law_row, 6 _law_amount_so, 7 _law_border -/
def b_law : Ms := sSeq (sSet 1 (eLst (aCons (eK (.int 0)) (aNil)))) (sSeq (sFor (iRng (aCons (eOp opAdd (eK (.int 6)) (eB bMin (aCons (eK (.int 20)) (aCons (eB bLen (aCons (eVar 0) aNil)) (aNil))))) (aNil))) (gNm 2) (sSeq (sPar [3, 4] (aCons (eCallG mf__law_scale (gVal (eVar 0) (gOwn 1 (gNil)))) (aCons (eCallG mf__law_cell (gVal (eVar 0) (gOwn 1 (gNil)))) (aNil)))) (sSeq (sFor (iVal (eIx (eVar 3) (eK (.int 1)))) (gNm 5) (sSeq (sFor (iVal (eTup (aCons (eIx (eVar 5) (eK (.int 0))) (aCons (eOp opAdd (eIx (eVar 5) (eK (.int 0))) (eK (.int 1))) (aCons (eOp opAdd (eIx (eVar 5) (eK (.int 0))) (eOp opMod (eVar 4) (eK (.int 500)))) (aCons (eVar 4) (aCons (eUn opNeg (eK (.int 3))) (aNil)))))))) (gNm 6) (sSeq (sSet 7 (eIx (eLst (aCons (eOp opAdd (eIx (eVar 5) (eK (.int 0))) (eOp opMod (eVar 4) (eK (.int 7)))) (aCons (eOp opMod (eVar 4) (eK (.int 1000))) (aCons (eOp opFdiv (eIx (eVar 5) (eK (.int 0))) (eK (.int 2))) (aNil))))) (eOp opMod (eOp opFdiv (eVar 4) (eK (.int 7))) (eK (.int 3))))) (sSeq (sIf (tNotM (tVal (eCall mf__law_right [0, 1, 2] (aCons (eVar 3) (aCons (eVar 6) (aCons (eVar 7) (aNil)))) (aNil)))) (sRet (eK (.bl false))) (sNil)) (sSeq (sIf (tCp opNe (eCall mf_bracket [0, 1] (aCons (eVar 3) (aCons (eVar 6) (aNil))) (aNil)) (eCall mf_bracket [0, 1] (aCons (eCall mf__law_turned [0] (aCons (eVar 3) (aNil)) (aNil)) (aCons (eVar 6) (aNil))) (aNil))) (sRet (eK (.bl false))) (sNil)) (sNil))))) (sNil))) (sNil)))) (sRet (eK (.bl true))))
def mf_law : Mf := mfOf 8 [.fz] (.fz) b_law
/-! ### what the top tells -/
abbrev Fd (K : PySem.W.Frag) (x : Str) (st : Stmt) (fd : FuncData) : Prop := FunD K x x (defArgs st) (defBody st) (defScope st) [] [] (He.ga K x) fd
def xL : List (PySem.W.Frag → Bool) := [mkCk "BadScale" 0, mkCk "BadAmount" 0]
structure Gd (w : World) (K : PySem.W.Frag) (mg : Str → Option Value) : Prop where
  x : xAll xL K = true
  g_BadAmount : mg "BadAmount" = some (.ref (He.ga K "BadAmount"))
  g_BadScale : mg "BadScale" = some (.ref (He.ga K "BadScale"))
  b_abs : mg "abs" = none
  b_all : mg "all" = none
  b_bool : mg "bool" = none
  b_enumerate : mg "enumerate" = none
  b_int : mg "int" = none
  b_isinstance : mg "isinstance" = none
  b_len : mg "len" = none
  b_min : mg "min" = none
  b_range : mg "range" = none
  b_str : mg "str" = none
  b_tuple : mg "tuple" = none
  b_zip : mg "zip" = none
  c_DOWN : ∃ t, mg "DOWN" = some (.str "down" t)
  c_MOST_BRACKETS : ∃ t, mg "MOST_BRACKETS" = some (.int 8 t)
  c_MOST_FROM : ∃ t, mg "MOST_FROM" = some (.int 1000000000000 t)
  c_MOST_RATE : ∃ t, mg "MOST_RATE" = some (.int 1000 t)
  c_NEAR : ∃ t, mg "NEAR" = some (.str "near" t)
  c_UP : ∃ t, mg "UP" = some (.str "up" t)
  f_is_whole : mg "is_whole" = some (.ref (He.ga K "is_whole"))
  d_is_whole : ∃ fd, Fd K "is_whole" st_is_whole fd
  f_is_from_to : mg "is_from_to" = some (.ref (He.ga K "is_from_to"))
  d_is_from_to : ∃ fd, Fd K "is_from_to" st_is_from_to fd
  f_is_tuple_of : mg "is_tuple_of" = some (.ref (He.ga K "is_tuple_of"))
  d_is_tuple_of : ∃ fd, Fd K "is_tuple_of" st_is_tuple_of fd
  f_is_round : mg "is_round" = some (.ref (He.ga K "is_round"))
  d_is_round : ∃ fd, Fd K "is_round" st_is_round fd
  f_is_rate : mg "is_rate" = some (.ref (He.ga K "is_rate"))
  d_is_rate : ∃ fd, Fd K "is_rate" st_is_rate fd
  f_rounded : mg "rounded" = some (.ref (He.ga K "rounded"))
  d_rounded : ∃ fd, Fd K "rounded" st_rounded fd
  f_is_scale : mg "is_scale" = some (.ref (He.ga K "is_scale"))
  d_is_scale : ∃ fd, Fd K "is_scale" st_is_scale fd
  f_need_scale : mg "need_scale" = some (.ref (He.ga K "need_scale"))
  d_need_scale : ∃ fd, Fd K "need_scale" st_need_scale fd
  f_need_whole : mg "need_whole" = some (.ref (He.ga K "need_whole"))
  d_need_whole : ∃ fd, Fd K "need_whole" st_need_whole fd
  f_common_number : mg "common_number" = some (.ref (He.ga K "common_number"))
  d_common_number : ∃ fd, Fd K "common_number" st_common_number fd
  f_own_together : mg "own_together" = some (.ref (He.ga K "own_together"))
  d_own_together : ∃ fd, Fd K "own_together" st_own_together fd
  f_scale_together : mg "scale_together" = some (.ref (He.ga K "scale_together"))
  d_scale_together : ∃ fd, Fd K "scale_together" st_scale_together fd
  f_own_tax : mg "own_tax" = some (.ref (He.ga K "own_tax"))
  d_own_tax : ∃ fd, Fd K "own_tax" st_own_tax fd
  f_tax : mg "tax" = some (.ref (He.ga K "tax"))
  d_tax : ∃ fd, Fd K "tax" st_tax fd
  f_bracket : mg "bracket" = some (.ref (He.ga K "bracket"))
  d_bracket : ∃ fd, Fd K "bracket" st_bracket fd
  f__law_cell : mg "_law_cell" = some (.ref (He.ga K "_law_cell"))
  d__law_cell : ∃ fd, Fd K "_law_cell" st__law_cell fd
  f__law_scale : mg "_law_scale" = some (.ref (He.ga K "_law_scale"))
  d__law_scale : ∃ fd, Fd K "_law_scale" st__law_scale fd
  f__law_turned : mg "_law_turned" = some (.ref (He.ga K "_law_turned"))
  d__law_turned : ∃ fd, Fd K "_law_turned" st__law_turned fd
  f__law_beyond : mg "_law_beyond" = some (.ref (He.ga K "_law_beyond"))
  d__law_beyond : ∃ fd, Fd K "_law_beyond" st__law_beyond fd
  f__law_with_row : mg "_law_with_row" = some (.ref (He.ga K "_law_with_row"))
  d__law_with_row : ∃ fd, Fd K "_law_with_row" st__law_with_row fd
  f__law_right : mg "_law_right" = some (.ref (He.ga K "_law_right"))
  d__law_right : ∃ fd, Fd K "_law_right" st__law_right fd
  f_law : mg "law" = some (.ref (He.ga K "law"))
  d_law : ∃ fd, Fd K "law" st_law fd
def mkL : List He.Defn := []
def nmL : List Str := []
/-! ### the defs -/
section
variable {P : Program} {w : World} {K : PySem.W.Frag} {mg : Str → Option Value} {base : Heap}
set_option maxHeartbeats 4000000 in
theorem ok_is_whole (gd : Gd w K mg) (hsys : SysOk base) {fd : FuncData} (F : Fd K "is_whole" st_is_whole fd) : KBn K fd ["thing"] 1 [] (fun us ws => us) (fun vs zs => vs) ∧ FnG P w K mg base 1 (He.ga K "is_whole") fd ["thing"] (spD K mg [.fz] (.fz) mf_is_whole) := by
  refine ⟨kpos_ofD F (fun _ _ _ _ _ _ us h => match us, h with | [_], _ => rfl), fn_d F sc_is_whole rfl rfl fun cdv A outer s H vs E hr hgd hv => ?_⟩
  match vs, hv with
  | [v0], _ =>
    exact (dss_one (ds_ret (de_and (de_b call_isD vb_isi rfl gd.b_isinstance boot_isinstance (dac_of (da_cons (de_var 0 rfl rfl (.inl rfl)) (da_cons (de_bty rfl gd.b_int boot_int) da_nil)))) (de_one (de_not (de_b call_isD vb_isi rfl gd.b_isinstance boot_isinstance (dac_of (da_cons (de_var 0 rfl rfl (.inl rfl)) (da_cons (de_bty rfl gd.b_bool boot_bool) da_nil))))))) rfl (.a .nil) (.a .nil)))
set_option maxHeartbeats 4000000 in
theorem ok_is_from_to (gd : Gd w K mg) (hsys : SysOk base) {fd : FuncData} (F : Fd K "is_from_to" st_is_from_to fd) : KBn K fd ["thing", "least", "most"] 3 [] (fun us ws => us) (fun vs zs => vs) ∧ FnG P w K mg base 2 (He.ga K "is_from_to") fd ["thing", "least", "most"] (spD K mg [.fz, .fz, .fz] (.fz) mf_is_from_to) := by
  obtain ⟨fd_is_whole, F_is_whole⟩ := gd.d_is_whole
  obtain ⟨K_is_whole, G_is_whole⟩ := ok_is_whole (P := P) (w := w) gd hsys F_is_whole
  refine ⟨kpos_ofD F (fun _ _ _ _ _ _ us h => match us, h with | [_, _, _], _ => rfl), fn_d F sc_is_from_to rfl rfl fun cdv A outer s H vs E hr hgd hv => ?_⟩
  match vs, hv with
  | [v0, v1, v2], _ =>
    exact (dss_one (ds_ret (de_and (de_call (FnG.mono G_is_whole (by decide)) hr hgd (takes_of rfl rfl rfl rfl) (kbn_ofD F_is_whole 1 [] [0] fun _ _ _ _ _ _ us ws h1 h2 => match us, ws, h1, h2 with | [_], [], _, _ => rfl) rfl gd.f_is_whole F_is_whole.kp rfl (da_cons (de_var 0 rfl rfl (.inl rfl)) da_nil) dk_nil rfl rfl) (de_one (de_chain op_le op_le vc_i2 vc_i2 (de_var 1 rfl rfl (.inl rfl)) (de_var 0 rfl rfl (.inl rfl)) (de_var 2 rfl rfl (.inl rfl))))) rfl (.a (.a (.a .nil))) (.a (.a (.a .nil)))))
set_option maxHeartbeats 4000000 in
theorem ok_is_tuple_of (gd : Gd w K mg) (hsys : SysOk base) {fd : FuncData} (F : Fd K "is_tuple_of" st_is_tuple_of fd) : KBn K fd ["thing", "least", "most"] 3 [] (fun us ws => us) (fun vs zs => vs) ∧ FnG P w K mg base 1 (He.ga K "is_tuple_of") fd ["thing", "least", "most"] (spD K mg [.fz, .fz, .fz] (.fz) mf_is_tuple_of) := by
  refine ⟨kpos_ofD F (fun _ _ _ _ _ _ us h => match us, h with | [_, _, _], _ => rfl), fn_d F sc_is_tuple_of rfl rfl fun cdv A outer s H vs E hr hgd hv => ?_⟩
  match vs, hv with
  | [v0, v1, v2], _ =>
    exact (dss_one (ds_ret (de_and (de_b call_isD vb_isi rfl gd.b_isinstance boot_isinstance (dac_of (da_cons (de_var 0 rfl rfl (.inl rfl)) (da_cons (de_bty rfl gd.b_tuple boot_tuple) da_nil)))) (de_one (de_chain op_le op_le vc_i2 vc_i2 (de_var 1 rfl rfl (.inl rfl)) (de_b call_len vb_len rfl gd.b_len boot_len (dac_one (DR.dc (DE.dr (de_var 0 rfl rfl (.inl rfl)))))) (de_var 2 rfl rfl (.inl rfl))))) rfl (.a (.a (.a .nil))) (.a (.a (.a .nil)))))
set_option maxHeartbeats 4000000 in
theorem ok_is_round (gd : Gd w K mg) (hsys : SysOk base) {fd : FuncData} (F : Fd K "is_round" st_is_round fd) : KBn K fd ["thing"] 1 [] (fun us ws => us) (fun vs zs => vs) ∧ FnG P w K mg base 1 (He.ga K "is_round") fd ["thing"] (spD K mg [.fz] (.fz) mf_is_round) := by
  obtain ⟨t_DOWN, c_DOWN⟩ := gd.c_DOWN
  obtain ⟨t_NEAR, c_NEAR⟩ := gd.c_NEAR
  obtain ⟨t_UP, c_UP⟩ := gd.c_UP
  refine ⟨kpos_ofD F (fun _ _ _ _ _ _ us h => match us, h with | [_], _ => rfl), fn_d F sc_is_round rfl rfl fun cdv A outer s H vs E hr hgd hv => ?_⟩
  match vs, hv with
  | [v0], _ =>
    exact (dss_one (ds_ret (de_and (de_b call_isD vb_isi rfl gd.b_isinstance boot_isinstance (dac_of (da_cons (de_var 0 rfl rfl (.inl rfl)) (da_cons (de_bty rfl gd.b_str boot_str) da_nil)))) (de_one (de_cmp (op_inX (u65 hr)) vc_in (de_var 0 rfl rfl (.inl rfl)) (DR.dc (DE.dr (de_tup (da_cons (de_globS rfl c_DOWN) (da_cons (de_globS rfl c_UP) (da_cons (de_globS rfl c_NEAR) da_nil)))))) rfl))) rfl (.a .nil) (.a .nil)))
set_option maxHeartbeats 4000000 in
theorem ok_is_rate (gd : Gd w K mg) (hsys : SysOk base) {fd : FuncData} (F : Fd K "is_rate" st_is_rate fd) : KBn K fd ["top", "bottom"] 2 [] (fun us ws => us) (fun vs zs => vs) ∧ FnG P w K mg base 3 (He.ga K "is_rate") fd ["top", "bottom"] (spD K mg [.fz, .fz] (.fz) mf_is_rate) := by
  obtain ⟨fd_is_from_to, F_is_from_to⟩ := gd.d_is_from_to
  obtain ⟨K_is_from_to, G_is_from_to⟩ := ok_is_from_to (P := P) (w := w) gd hsys F_is_from_to
  obtain ⟨t_MOST_RATE, c_MOST_RATE⟩ := gd.c_MOST_RATE
  refine ⟨kpos_ofD F (fun _ _ _ _ _ _ us h => match us, h with | [_, _], _ => rfl), fn_d F sc_is_rate rfl rfl fun cdv A outer s H vs E hr hgd hv => ?_⟩
  match vs, hv with
  | [v0, v1], _ =>
    exact (dss_one (ds_ret (de_and (de_call (FnG.mono G_is_from_to (by decide)) hr hgd (takes_of rfl rfl rfl rfl) (kbn_ofD F_is_from_to 3 [] [0, 1, 2] fun _ _ _ _ _ _ us ws h1 h2 => match us, ws, h1, h2 with | [_, _, _], [], _, _ => rfl) rfl gd.f_is_from_to F_is_from_to.kp rfl (da_cons (de_var 0 rfl rfl (.inl rfl)) (da_cons (de_op op_sub vop_sub de_int (de_globI rfl c_MOST_RATE)) (da_cons (de_globI rfl c_MOST_RATE) da_nil))) dk_nil rfl rfl) (de_one (de_call (FnG.mono G_is_from_to (by decide)) hr hgd (takes_of rfl rfl rfl rfl) (kbn_ofD F_is_from_to 3 [] [0, 1, 2] fun _ _ _ _ _ _ us ws h1 h2 => match us, ws, h1, h2 with | [_, _, _], [], _, _ => rfl) rfl gd.f_is_from_to F_is_from_to.kp rfl (da_cons (de_var 1 rfl rfl (.inl rfl)) (da_cons de_int (da_cons (de_globI rfl c_MOST_RATE) da_nil))) dk_nil rfl rfl))) rfl (.a (.a .nil)) (.a (.a .nil))))
set_option maxHeartbeats 4000000 in
theorem ok_rounded (gd : Gd w K mg) (hsys : SysOk base) {fd : FuncData} (F : Fd K "rounded" st_rounded fd) : KBn K fd ["top", "bottom", "way"] 3 [] (fun us ws => us) (fun vs zs => vs) ∧ FnG P w K mg base 1 (He.ga K "rounded") fd ["top", "bottom", "way"] (spD K mg [.fz, .fz, .fz] (.fz) mf_rounded) := by
  obtain ⟨t_DOWN, c_DOWN⟩ := gd.c_DOWN
  obtain ⟨t_UP, c_UP⟩ := gd.c_UP
  refine ⟨kpos_ofD F (fun _ _ _ _ _ _ us h => match us, h with | [_, _, _], _ => rfl), fn_d F sc_rounded rfl rfl fun cdv A outer s H vs E hr hgd hv => ?_⟩
  match vs, hv with
  | [v0, v1, v2], _ =>
    exact (dss_cons (ds_if (G' := [.fz, .fz, .fz]) (dt_cmp (op_eqX (u64 hr)) vc_eq (de_var 2 rfl rfl (.inl rfl)) (DR.dc (DE.dr (de_globS rfl c_DOWN))) rfl) (dss_one (ds_ret (de_op op_fdivW vop_fdiv (de_var 0 rfl rfl (.inl rfl)) (de_var 1 rfl rfl (.inl rfl))) rfl (.a (.a (.a .nil))) (.a (.a (.a .nil))))) dss_nil (.a (.a (.a .nil)))) (dss_one (ds_ret (de_if (dt_cmp (op_eqX (u64 hr)) vc_eq (de_var 2 rfl rfl (.inl rfl)) (DR.dc (DE.dr (de_globS rfl c_UP))) rfl) (de_op op_sub vop_sub de_int (de_op op_fdivW vop_fdiv (de_op op_sub vop_sub de_int (de_var 0 rfl rfl (.inl rfl))) (de_var 1 rfl rfl (.inl rfl)))) (de_op op_fdivW vop_fdiv (de_op op_addX vop_add (de_op op_mulX vop_mul de_int (de_var 0 rfl rfl (.inl rfl))) (de_var 1 rfl rfl (.inl rfl))) (de_op op_mulX vop_mul de_int (de_var 1 rfl rfl (.inl rfl))))) rfl (.a (.a (.a .nil))) (.a (.a (.a .nil))))))
set_option maxHeartbeats 4000000 in
theorem ok_is_scale (gd : Gd w K mg) (hsys : SysOk base) {fd : FuncData} (F : Fd K "is_scale" st_is_scale fd) : KBn K fd ["thing"] 1 [] (fun us ws => us) (fun vs zs => vs) ∧ FnG P w K mg base 4 (He.ga K "is_scale") fd ["thing"] (spD K mg [.fz] (.fz) mf_is_scale) := by
  obtain ⟨fd_is_from_to, F_is_from_to⟩ := gd.d_is_from_to
  obtain ⟨K_is_from_to, G_is_from_to⟩ := ok_is_from_to (P := P) (w := w) gd hsys F_is_from_to
  obtain ⟨fd_is_tuple_of, F_is_tuple_of⟩ := gd.d_is_tuple_of
  obtain ⟨K_is_tuple_of, G_is_tuple_of⟩ := ok_is_tuple_of (P := P) (w := w) gd hsys F_is_tuple_of
  obtain ⟨fd_is_round, F_is_round⟩ := gd.d_is_round
  obtain ⟨K_is_round, G_is_round⟩ := ok_is_round (P := P) (w := w) gd hsys F_is_round
  obtain ⟨fd_is_rate, F_is_rate⟩ := gd.d_is_rate
  obtain ⟨K_is_rate, G_is_rate⟩ := ok_is_rate (P := P) (w := w) gd hsys F_is_rate
  obtain ⟨t_MOST_BRACKETS, c_MOST_BRACKETS⟩ := gd.c_MOST_BRACKETS
  obtain ⟨t_MOST_FROM, c_MOST_FROM⟩ := gd.c_MOST_FROM
  refine ⟨kpos_ofD F (fun _ _ _ _ _ _ us h => match us, h with | [_], _ => rfl), fn_d F sc_is_scale rfl rfl fun cdv A outer s H vs E hr hgd hv => ?_⟩
  match vs, hv with
  | [v0], _ =>
    exact (dss_cons (ds_if (G' := [.fz, .any, .any, .any, .any]) (DW.dt (dw_or (dt_not (dt_val (de_call (FnG.mono G_is_tuple_of (by decide)) hr hgd (takes_of rfl rfl rfl rfl) (kbn_ofD F_is_tuple_of 3 [] [0, 1, 2] fun _ _ _ _ _ _ us ws h1 h2 => match us, ws, h1, h2 with | [_, _, _], [], _, _ => rfl) rfl gd.f_is_tuple_of F_is_tuple_of.kp rfl (da_cons (de_var 0 rfl rfl (.inl rfl)) (da_cons de_int (da_cons de_int da_nil))) dk_nil rfl rfl))) (dw_or (dt_not (dt_val (de_call (FnG.mono G_is_round (by decide)) hr hgd (takes_of rfl rfl rfl rfl) (kbn_ofD F_is_round 1 [] [0] fun _ _ _ _ _ _ us ws h1 h2 => match us, ws, h1, h2 with | [_], [], _, _ => rfl) rfl gd.f_is_round F_is_round.kp rfl (da_cons (de_ix (de_var 0 rfl rfl (.inl rfl)) de_int) da_nil) dk_nil rfl rfl))) (dw_or1 (dt_not (dt_val (de_call (FnG.mono G_is_tuple_of (by decide)) hr hgd (takes_of rfl rfl rfl rfl) (kbn_ofD F_is_tuple_of 3 [] [0, 1, 2] fun _ _ _ _ _ _ us ws h1 h2 => match us, ws, h1, h2 with | [_, _, _], [], _, _ => rfl) rfl gd.f_is_tuple_of F_is_tuple_of.kp rfl (da_cons (de_ix (de_var 0 rfl rfl (.inl rfl)) de_int) (da_cons de_int (da_cons (de_globI rfl c_MOST_BRACKETS) da_nil))) dk_nil rfl rfl))))))) (dss_one (ds_ret de_bl rfl (.a (.s (.s (.s (.s .nil))))) (.a (.s (.s (.s (.s .nil))))))) dss_nil (.a (.s (.s (.s (.s .nil)))))) (dss_cons (ds_for (Gh := [.fz, .any, .any, .any, .any]) (passes_of rfl) rfl (di_val (de_ix (de_var 0 rfl rfl (.inl rfl)) de_int)) (dt_name 1 sc_is_scale.nd rfl (.inl rfl)) (dss_cons (ds_if (G' := [.fz, .fz, .any, .any, .any]) (DW.dt (dw_or (dt_not (dt_val (de_call (FnG.mono G_is_tuple_of (by decide)) hr hgd (takes_of rfl rfl rfl rfl) (kbn_ofD F_is_tuple_of 3 [] [0, 1, 2] fun _ _ _ _ _ _ us ws h1 h2 => match us, ws, h1, h2 with | [_, _, _], [], _, _ => rfl) rfl gd.f_is_tuple_of F_is_tuple_of.kp rfl (da_cons (de_var 1 rfl rfl (.inl rfl)) (da_cons de_int (da_cons de_int da_nil))) dk_nil rfl rfl))) (dw_or (dt_not (dt_val (de_call (FnG.mono G_is_from_to (by decide)) hr hgd (takes_of rfl rfl rfl rfl) (kbn_ofD F_is_from_to 3 [] [0, 1, 2] fun _ _ _ _ _ _ us ws h1 h2 => match us, ws, h1, h2 with | [_, _, _], [], _, _ => rfl) rfl gd.f_is_from_to F_is_from_to.kp rfl (da_cons (de_ix (de_var 1 rfl rfl (.inl rfl)) de_int) (da_cons de_int (da_cons (de_globI rfl c_MOST_FROM) da_nil))) dk_nil rfl rfl))) (dw_or1 (dt_not (dt_val (de_call (FnG.mono G_is_rate (by decide)) hr hgd (takes_of rfl rfl rfl rfl) (kbn_ofD F_is_rate 2 [] [0, 1] fun _ _ _ _ _ _ us ws h1 h2 => match us, ws, h1, h2 with | [_, _], [], _, _ => rfl) rfl gd.f_is_rate F_is_rate.kp rfl (da_cons (de_ix (de_var 1 rfl rfl (.inl rfl)) de_int) (da_cons (de_ix (de_var 1 rfl rfl (.inl rfl)) de_int) da_nil)) dk_nil rfl rfl))))))) (dss_one (ds_ret de_bl rfl (.a (.a (.s (.s (.s .nil))))) (.a (.a (.s (.s (.s .nil))))))) dss_nil (.a (.a (.s (.s (.s .nil)))))) (DSs.wk dss_nil (.s (.a (.s (.s (.s .nil))))))) (.s (.s (.s (.s (.s .nil))))) (.a (.s (.s (.s (.s .nil)))))) (dss_cons (ds_setLc (own := [(("row" : Str), 1)]) rfl sc_is_scale.nd rfl rfl (sw_true rfl rfl rfl rfl) (blkOk_by (by rfl)) (di_val (de_ix (de_var 0 rfl rfl (.inl rfl)) de_int)) (fun _ _ _ _ _ => (dt_name 1 sc_is_scale.nd rfl (.inl rfl))) (fun _ _ _ _ _ => dtb_nil) (fun _ _ _ _ _ => (de_ix (de_var 1 rfl rfl (.inl rfl)) de_int)) (by decide) rfl (by decide) (fa_cons (.inr rfl) fa_nil) (.a (.s (.s (.s (.s .nil)))))) (DSs.freeze 2 rfl rfl (dss_one (ds_ret (de_and (de_cmp (op_eqX (u64 hr)) vc_eq (de_ix (de_var 2 rfl rfl (.inl rfl)) de_int) (DR.dc (DE.dr de_int)) rfl) (de_one (de_b (cr_all rfl) vb_all rfl gd.b_all boot_all (dac_one (DR.dc (DE.dr (DO.de (do_lc (own := [(("one" : Str), 3), (("other" : Str), 4)]) rfl sc_is_scale.nd (blkOk_by (by rfl)) (di_zipB0 rfl gd.b_zip (da_cons (de_var 2 rfl rfl (.inl rfl)) (da_cons (de_slX (DE.dr (de_var 2 rfl rfl (.inl rfl))) (dp_some de_int) dp_none) da_nil))) (fun _ _ _ _ _ => (dt_tup rfl (dts_cons (dt_name 3 sc_is_scale.nd rfl (.inl rfl)) (dts_cons (dt_name 4 sc_is_scale.nd rfl (.inl rfl)) dts_nil)))) (fun _ _ _ _ _ => dtb_nil) (fun _ _ _ _ _ => (de_cmp op_lt vc_i2 (de_var 3 rfl rfl (.inl rfl)) (DR.dc (DE.dr (de_var 4 rfl rfl (.inl rfl)))) rfl)) (by decide) rfl (by decide) (fa_cons (.inr rfl) (fa_cons (.inr rfl) fa_nil))) rfl))))))) rfl (.a (.s (.a (.s (.s .nil))))) (.a (.s (.a (.s (.s .nil)))))))))))
set_option maxHeartbeats 4000000 in
theorem ok_need_scale (gd : Gd w K mg) (hsys : SysOk base) {fd : FuncData} (F : Fd K "need_scale" st_need_scale fd) : KBn K fd ["scale"] 1 [] (fun us ws => us) (fun vs zs => vs) ∧ FnG P w K mg base 5 (He.ga K "need_scale") fd ["scale"] (spD K mg [.fz] (.fz) mf_need_scale) := by
  obtain ⟨fd_is_scale, F_is_scale⟩ := gd.d_is_scale
  obtain ⟨K_is_scale, G_is_scale⟩ := ok_is_scale (P := P) (w := w) gd hsys F_is_scale
  refine ⟨kpos_ofD F (fun _ _ _ _ _ _ us h => match us, h with | [_], _ => rfl), fn_d F sc_need_scale rfl rfl fun cdv A outer s H vs E hr hgd hv => ?_⟩
  match vs, hv with
  | [v0], _ =>
    exact (dss_cons (ds_if (G' := [.fz]) (dt_not (dt_val (de_call (FnG.mono G_is_scale (by decide)) hr hgd (takes_of rfl rfl rfl rfl) (kbn_ofD F_is_scale 1 [] [0] fun _ _ _ _ _ _ us ws h1 h2 => match us, ws, h1, h2 with | [_], [], _, _ => rfl) rfl gd.f_is_scale F_is_scale.kp rfl (da_cons (de_var 0 rfl rfl (.inl rfl)) da_nil) dk_nil rfl rfl))) (dss_one (ds_raise (exO_of (k := 0) gd.g_BadScale (xAll.fact gd.x 0)) rfl (takes_of rfl rfl rfl rfl) (.a .nil) rfl)) dss_nil (.a .nil)) (DSs.wk dss_nil (.a .nil)))
set_option maxHeartbeats 4000000 in
theorem ok_need_whole (gd : Gd w K mg) (hsys : SysOk base) {fd : FuncData} (F : Fd K "need_whole" st_need_whole fd) : KBn K fd ["amount"] 1 [] (fun us ws => us) (fun vs zs => vs) ∧ FnG P w K mg base 2 (He.ga K "need_whole") fd ["amount"] (spD K mg [.fz] (.fz) mf_need_whole) := by
  obtain ⟨fd_is_whole, F_is_whole⟩ := gd.d_is_whole
  obtain ⟨K_is_whole, G_is_whole⟩ := ok_is_whole (P := P) (w := w) gd hsys F_is_whole
  refine ⟨kpos_ofD F (fun _ _ _ _ _ _ us h => match us, h with | [_], _ => rfl), fn_d F sc_need_whole rfl rfl fun cdv A outer s H vs E hr hgd hv => ?_⟩
  match vs, hv with
  | [v0], _ =>
    exact (dss_cons (ds_if (G' := [.fz]) (dt_not (dt_val (de_call (FnG.mono G_is_whole (by decide)) hr hgd (takes_of rfl rfl rfl rfl) (kbn_ofD F_is_whole 1 [] [0] fun _ _ _ _ _ _ us ws h1 h2 => match us, ws, h1, h2 with | [_], [], _, _ => rfl) rfl gd.f_is_whole F_is_whole.kp rfl (da_cons (de_var 0 rfl rfl (.inl rfl)) da_nil) dk_nil rfl rfl))) (dss_one (ds_raise (exO_of (k := 0) gd.g_BadAmount (xAll.fact gd.x 1)) rfl (takes_of rfl rfl rfl rfl) (.a .nil) rfl)) dss_nil (.a .nil)) (DSs.wk dss_nil (.a .nil)))
set_option maxHeartbeats 4000000 in
theorem ok_common_number (gd : Gd w K mg) (hsys : SysOk base) {fd : FuncData} (F : Fd K "common_number" st_common_number fd) : KBn K fd ["one", "other"] 2 [] (fun us ws => us) (fun vs zs => vs) ∧ FnG P w K mg base 1 (He.ga K "common_number") fd ["one", "other"] (spD K mg [.fz, .fz] (.fz) mf_common_number) := by
  refine ⟨kpos_ofD F (fun _ _ _ _ _ _ us h => match us, h with | [_, _], _ => rfl), fn_d F sc_common_number rfl rfl fun cdv A outer s H vs E hr hgd hv => ?_⟩
  match vs, hv with
  | [v0, v1], _ =>
    exact (dss_cons (ds_while (Gh := [.fz, .fz]) (fuel := fun _ => 1000000) (passes_of rfl) (dt_cmp (op_neX (u64 hr)) vc_ne (de_var 1 rfl rfl (.inl rfl)) (DR.dc (DE.dr de_int)) rfl) (dss_cons (ds_par2 rfl sc_common_number.nd rfl rfl (by decide) rfl rfl (dao_O (DE.doz (de_var 1 rfl rfl (.inl rfl))) (dao_O (DE.doz (de_op op_mod vop_mod (de_var 0 rfl rfl (.inl rfl)) (de_var 1 rfl rfl (.inl rfl)))) dao_nil)) (.a (.a .nil)) rfl) dss_nil) (.s (.s .nil)) (.a (.a .nil))) (dss_one (ds_ret (de_var 0 rfl rfl (.inl rfl)) rfl (.a (.a .nil)) (.a (.a .nil)))))
set_option maxHeartbeats 4000000 in
theorem ok_own_together (gd : Gd w K mg) (hsys : SysOk base) {fd : FuncData} (F : Fd K "own_together" st_own_together fd) : KBn K fd ["scale"] 1 [] (fun us ws => us) (fun vs zs => vs) ∧ FnG P w K mg base 2 (He.ga K "own_together") fd ["scale"] (spD K mg [.fz] (.fz) mf_own_together) := by
  obtain ⟨fd_common_number, F_common_number⟩ := gd.d_common_number
  obtain ⟨K_common_number, G_common_number⟩ := ok_common_number (P := P) (w := w) gd hsys F_common_number
  refine ⟨kpos_ofD F (fun _ _ _ _ _ _ us h => match us, h with | [_], _ => rfl), fn_d F sc_own_together rfl rfl fun cdv A outer s H vs E hr hgd hv => ?_⟩
  match vs, hv with
  | [v0], _ =>
    exact (dss_cons (ds_asg (de_var 0 rfl rfl (.inl rfl)) (dt_tup rfl (dts_cons (dt_name 1 sc_own_together.nd rfl (.inl rfl)) (dts_cons (dt_name 2 sc_own_together.nd rfl (.inl rfl)) dts_nil))) (.a (.s (.s (.s (.s (.s (.s .nil)))))))) (dss_cons (ds_set (i := 3) sc_own_together.nd rfl (.inr rfl) de_int (.a (.a (.a (.s (.s (.s (.s .nil)))))))) (dss_cons (ds_for (Gh := [.fz, .fz, .fz, .fz, .any, .any, .any]) (passes_of rfl) rfl (di_val (de_var 2 rfl rfl (.inl rfl))) (dt_tup rfl (dts_cons (dt_name 4 sc_own_together.nd rfl (.inl rfl)) (dts_cons (dt_name 5 sc_own_together.nd rfl (.inl rfl)) (dts_cons (dt_name 6 sc_own_together.nd rfl (.inl rfl)) dts_nil)))) (dss_cons (ds_set (i := 3) sc_own_together.nd rfl (.inr rfl) (de_op op_fdivW vop_fdiv (de_op op_mulX vop_mul (de_var 3 rfl rfl (.inr (.inl rfl))) (de_var 6 rfl rfl (.inl rfl))) (de_call (FnG.mono G_common_number (by decide)) hr hgd (takes_of rfl rfl rfl rfl) (kbn_ofD F_common_number 2 [] [0, 1] fun _ _ _ _ _ _ us ws h1 h2 => match us, ws, h1, h2 with | [_, _], [], _, _ => rfl) rfl gd.f_common_number F_common_number.kp rfl (da_cons (de_var 3 rfl rfl (.inr (.inl rfl))) (da_cons (de_var 6 rfl rfl (.inl rfl)) da_nil)) dk_nil rfl rfl)) (.a (.a (.a (.a (.a (.a (.a .nil)))))))) (DSs.wk dss_nil (.s (.s (.s (.s (.a (.a (.a .nil))))))))) (.s (.s (.s (.s (.s (.s (.s .nil))))))) (.a (.a (.a (.a (.s (.s (.s .nil)))))))) (dss_one (ds_ret (de_tup (da_cons (de_var 1 rfl rfl (.inl rfl)) (da_cons (de_var 3 rfl rfl (.inr (.inl rfl))) (da_cons (de_tupc rfl gd.b_tuple (DE.dr (DO.de (do_lc (own := [(("begin" : Str), 4), (("top" : Str), 5), (("bottom" : Str), 6)]) rfl sc_own_together.nd (blkOk_by (by rfl)) (di_val (de_var 2 rfl rfl (.inl rfl))) (fun _ _ _ _ _ => (dt_tup rfl (dts_cons (dt_name 4 sc_own_together.nd rfl (.inl rfl)) (dts_cons (dt_name 5 sc_own_together.nd rfl (.inl rfl)) (dts_cons (dt_name 6 sc_own_together.nd rfl (.inl rfl)) dts_nil))))) (fun _ _ _ _ _ => dtb_nil) (fun _ _ _ _ _ => (de_tup (da_cons (de_var 4 rfl rfl (.inl rfl)) (da_cons (de_op op_mulX vop_mul (de_var 5 rfl rfl (.inl rfl)) (de_op op_fdivW vop_fdiv (de_var 3 rfl rfl (.inr (.inl rfl))) (de_var 6 rfl rfl (.inl rfl)))) da_nil)))) (by decide) rfl (by decide) (fa_cons (.inr rfl) (fa_cons (.inr rfl) (fa_cons (.inr rfl) fa_nil)))) rfl)) boot_tuple) da_nil)))) rfl (.a (.a (.a (.a (.s (.s (.s .nil))))))) (.a (.a (.a (.a (.s (.s (.s .nil))))))))))))
set_option maxHeartbeats 4000000 in
theorem ok_scale_together (gd : Gd w K mg) (hsys : SysOk base) {fd : FuncData} (F : Fd K "scale_together" st_scale_together fd) : KBn K fd ["scale"] 1 [] (fun us ws => us) (fun vs zs => vs) ∧ FnG P w K mg base 6 (He.ga K "scale_together") fd ["scale"] (spD K mg [.fz] (.fz) mf_scale_together) := by
  obtain ⟨fd_need_scale, F_need_scale⟩ := gd.d_need_scale
  obtain ⟨K_need_scale, G_need_scale⟩ := ok_need_scale (P := P) (w := w) gd hsys F_need_scale
  obtain ⟨fd_own_together, F_own_together⟩ := gd.d_own_together
  obtain ⟨K_own_together, G_own_together⟩ := ok_own_together (P := P) (w := w) gd hsys F_own_together
  refine ⟨kpos_ofD F (fun _ _ _ _ _ _ us h => match us, h with | [_], _ => rfl), fn_d F sc_scale_together rfl rfl fun cdv A outer s H vs E hr hgd hv => ?_⟩
  match vs, hv with
  | [v0], _ =>
    exact (dss_cons (ds_exp (de_call (FnG.mono G_need_scale (by decide)) hr hgd (takes_of rfl rfl rfl rfl) (kbn_ofD F_need_scale 1 [] [0] fun _ _ _ _ _ _ us ws h1 h2 => match us, ws, h1, h2 with | [_], [], _, _ => rfl) rfl gd.f_need_scale F_need_scale.kp rfl (da_cons (de_var 0 rfl rfl (.inl rfl)) da_nil) dk_nil rfl rfl) (.a .nil)) (dss_one (ds_ret (de_call (FnG.mono G_own_together (by decide)) hr hgd (takes_of rfl rfl rfl rfl) (kbn_ofD F_own_together 1 [] [0] fun _ _ _ _ _ _ us ws h1 h2 => match us, ws, h1, h2 with | [_], [], _, _ => rfl) rfl gd.f_own_together F_own_together.kp rfl (da_cons (de_var 0 rfl rfl (.inl rfl)) da_nil) dk_nil rfl rfl) rfl (.a .nil) (.a .nil))))
set_option maxHeartbeats 4000000 in
theorem ok_own_tax (gd : Gd w K mg) (hsys : SysOk base) {fd : FuncData} (F : Fd K "own_tax" st_own_tax fd) : KBn K fd ["scale", "amount"] 2 [] (fun us ws => us) (fun vs zs => vs) ∧ FnG P w K mg base 3 (He.ga K "own_tax") fd ["scale", "amount"] (spD K mg [.fz, .fz] (.fz) mf_own_tax) := by
  obtain ⟨fd_rounded, F_rounded⟩ := gd.d_rounded
  obtain ⟨K_rounded, G_rounded⟩ := ok_rounded (P := P) (w := w) gd hsys F_rounded
  obtain ⟨fd_own_together, F_own_together⟩ := gd.d_own_together
  obtain ⟨K_own_together, G_own_together⟩ := ok_own_together (P := P) (w := w) gd hsys F_own_together
  refine ⟨kpos_ofD F (fun _ _ _ _ _ _ us h => match us, h with | [_, _], _ => rfl), fn_d F sc_own_tax rfl rfl fun cdv A outer s H vs E hr hgd hv => ?_⟩
  match vs, hv with
  | [v0, v1], _ =>
    exact (dss_cons (ds_if (G' := [.fz, .fz, .any, .any, .any, .any, .any, .any, .any, .any, .any]) (dt_cmp op_le vc_i2 (de_var 1 rfl rfl (.inl rfl)) (DR.dc (DE.dr de_int)) rfl) (dss_one (ds_ret de_int rfl (.a (.a (.s (.s (.s (.s (.s (.s (.s (.s (.s .nil))))))))))) (.a (.a (.s (.s (.s (.s (.s (.s (.s (.s (.s .nil))))))))))))) dss_nil (.a (.a (.s (.s (.s (.s (.s (.s (.s (.s (.s .nil)))))))))))) (dss_cons (ds_asg (de_call (FnG.mono G_own_together (by decide)) hr hgd (takes_of rfl rfl rfl rfl) (kbn_ofD F_own_together 1 [] [0] fun _ _ _ _ _ _ us ws h1 h2 => match us, ws, h1, h2 with | [_], [], _, _ => rfl) rfl gd.f_own_together F_own_together.kp rfl (da_cons (de_var 0 rfl rfl (.inl rfl)) da_nil) dk_nil rfl rfl) (dt_tup rfl (dts_cons (dt_name 2 sc_own_tax.nd rfl (.inl rfl)) (dts_cons (dt_name 3 sc_own_tax.nd rfl (.inl rfl)) (dts_cons (dt_name 4 sc_own_tax.nd rfl (.inl rfl)) dts_nil)))) (.a (.a (.s (.s (.s (.s (.s (.s (.s (.s (.s .nil)))))))))))) (dss_cons (ds_set (i := 5) sc_own_tax.nd rfl (.inl rfl) (de_op op_addX vop_add (DO.de (do_lc (own := [(("row" : Str), 10)]) rfl sc_own_tax.nd (blkOk_by (by rfl)) (di_val (de_slX (DE.dr (de_var 4 rfl rfl (.inl rfl))) (dp_some de_int) dp_none)) (fun _ _ _ _ _ => (dt_name 10 sc_own_tax.nd rfl (.inl rfl))) (fun _ _ _ _ _ => dtb_nil) (fun _ _ _ _ _ => (de_ix (de_var 10 rfl rfl (.inl rfl)) de_int)) (by decide) rfl (by decide) (fa_cons (.inr rfl) fa_nil)) rfl) (DO.de (do_lst (da_cons (de_var 1 rfl rfl (.inl rfl)) da_nil)) rfl)) (.a (.a (.a (.a (.a (.s (.s (.s (.s (.s (.s .nil)))))))))))) (dss_cons (ds_set (i := 6) sc_own_tax.nd rfl (.inl rfl) de_int (.a (.a (.a (.a (.a (.a (.s (.s (.s (.s (.s .nil)))))))))))) (dss_cons (ds_for (Gh := [.fz, .fz, .fz, .fz, .fz, .fz, .fz, .any, .any, .any, .any]) (passes_of rfl) rfl (di_zipB1 rfl gd.b_zip (da_cons (de_var 4 rfl rfl (.inl rfl)) (da_cons (de_var 5 rfl rfl (.inl rfl)) da_nil))) (dt_tup rfl (dts_cons (dt_tup rfl (dts_cons (dt_name 7 sc_own_tax.nd rfl (.inl rfl)) (dts_cons (dt_name 8 sc_own_tax.nd rfl (.inl rfl)) dts_nil))) (dts_cons (dt_name 9 sc_own_tax.nd rfl (.inl rfl)) dts_nil))) (dss_cons (ds_if (G' := [.fz, .fz, .fz, .fz, .fz, .fz, .fz, .fz, .fz, .fz, .any]) (dt_cmp op_gt vc_i2 (de_var 1 rfl rfl (.inl rfl)) (DR.dc (DE.dr (de_var 7 rfl rfl (.inl rfl)))) rfl) (dss_cons (ds_aug (i := 6) sc_own_tax.nd rfl (.inl rfl) rfl iop_addX vop_iadd (de_op op_mulX vop_mul (de_op op_sub vop_sub (de_b (call_min2 rfl) vb_min rfl gd.b_min boot_min (dac_of (da_cons (de_var 1 rfl rfl (.inl rfl)) (da_cons (de_var 9 rfl rfl (.inl rfl)) da_nil)))) (de_var 7 rfl rfl (.inl rfl))) (de_var 8 rfl rfl (.inl rfl))) (.a (.a (.a (.a (.a (.a (.a (.a (.a (.a (.s .nil)))))))))))) dss_nil) dss_nil (.a (.a (.a (.a (.a (.a (.a (.a (.a (.a (.s .nil)))))))))))) (DSs.wk dss_nil (.s (.s (.s (.s (.s (.s (.s (.a (.a (.a (.s .nil))))))))))))) (.s (.s (.s (.s (.s (.s (.s (.s (.s (.s (.s .nil))))))))))) (.a (.a (.a (.a (.a (.a (.a (.s (.s (.s (.s .nil)))))))))))) (dss_one (ds_ret (de_call (FnG.mono G_rounded (by decide)) hr hgd (takes_of rfl rfl rfl rfl) (kbn_ofD F_rounded 3 [] [0, 1, 2] fun _ _ _ _ _ _ us ws h1 h2 => match us, ws, h1, h2 with | [_, _, _], [], _, _ => rfl) rfl gd.f_rounded F_rounded.kp rfl (da_cons (de_var 6 rfl rfl (.inl rfl)) (da_cons (de_var 3 rfl rfl (.inl rfl)) (da_cons (de_var 2 rfl rfl (.inl rfl)) da_nil))) dk_nil rfl rfl) rfl (.a (.a (.a (.a (.a (.a (.a (.s (.s (.s (.s .nil))))))))))) (.a (.a (.a (.a (.a (.a (.a (.s (.s (.s (.s .nil))))))))))))))))))
set_option maxHeartbeats 4000000 in
theorem ok_tax (gd : Gd w K mg) (hsys : SysOk base) {fd : FuncData} (F : Fd K "tax" st_tax fd) : KBn K fd ["scale", "amount"] 2 [] (fun us ws => us) (fun vs zs => vs) ∧ FnG P w K mg base 6 (He.ga K "tax") fd ["scale", "amount"] (spD K mg [.fz, .fz] (.fz) mf_tax) := by
  obtain ⟨fd_need_scale, F_need_scale⟩ := gd.d_need_scale
  obtain ⟨K_need_scale, G_need_scale⟩ := ok_need_scale (P := P) (w := w) gd hsys F_need_scale
  obtain ⟨fd_need_whole, F_need_whole⟩ := gd.d_need_whole
  obtain ⟨K_need_whole, G_need_whole⟩ := ok_need_whole (P := P) (w := w) gd hsys F_need_whole
  obtain ⟨fd_own_tax, F_own_tax⟩ := gd.d_own_tax
  obtain ⟨K_own_tax, G_own_tax⟩ := ok_own_tax (P := P) (w := w) gd hsys F_own_tax
  refine ⟨kpos_ofD F (fun _ _ _ _ _ _ us h => match us, h with | [_, _], _ => rfl), fn_d F sc_tax rfl rfl fun cdv A outer s H vs E hr hgd hv => ?_⟩
  match vs, hv with
  | [v0, v1], _ =>
    exact (dss_cons (ds_exp (de_call (FnG.mono G_need_scale (by decide)) hr hgd (takes_of rfl rfl rfl rfl) (kbn_ofD F_need_scale 1 [] [0] fun _ _ _ _ _ _ us ws h1 h2 => match us, ws, h1, h2 with | [_], [], _, _ => rfl) rfl gd.f_need_scale F_need_scale.kp rfl (da_cons (de_var 0 rfl rfl (.inl rfl)) da_nil) dk_nil rfl rfl) (.a (.a .nil))) (dss_cons (ds_exp (de_call (FnG.mono G_need_whole (by decide)) hr hgd (takes_of rfl rfl rfl rfl) (kbn_ofD F_need_whole 1 [] [0] fun _ _ _ _ _ _ us ws h1 h2 => match us, ws, h1, h2 with | [_], [], _, _ => rfl) rfl gd.f_need_whole F_need_whole.kp rfl (da_cons (de_var 1 rfl rfl (.inl rfl)) da_nil) dk_nil rfl rfl) (.a (.a .nil))) (dss_one (ds_ret (de_call (FnG.mono G_own_tax (by decide)) hr hgd (takes_of rfl rfl rfl rfl) (kbn_ofD F_own_tax 2 [] [0, 1] fun _ _ _ _ _ _ us ws h1 h2 => match us, ws, h1, h2 with | [_, _], [], _, _ => rfl) rfl gd.f_own_tax F_own_tax.kp rfl (da_cons (de_var 0 rfl rfl (.inl rfl)) (da_cons (de_var 1 rfl rfl (.inl rfl)) da_nil)) dk_nil rfl rfl) rfl (.a (.a .nil)) (.a (.a .nil))))))
set_option maxHeartbeats 4000000 in
theorem ok_bracket (gd : Gd w K mg) (hsys : SysOk base) {fd : FuncData} (F : Fd K "bracket" st_bracket fd) : KBn K fd ["scale", "amount"] 2 [] (fun us ws => us) (fun vs zs => vs) ∧ FnG P w K mg base 6 (He.ga K "bracket") fd ["scale", "amount"] (spD K mg [.fz, .fz] (.fz) mf_bracket) := by
  obtain ⟨fd_need_scale, F_need_scale⟩ := gd.d_need_scale
  obtain ⟨K_need_scale, G_need_scale⟩ := ok_need_scale (P := P) (w := w) gd hsys F_need_scale
  obtain ⟨fd_need_whole, F_need_whole⟩ := gd.d_need_whole
  obtain ⟨K_need_whole, G_need_whole⟩ := ok_need_whole (P := P) (w := w) gd hsys F_need_whole
  refine ⟨kpos_ofD F (fun _ _ _ _ _ _ us h => match us, h with | [_, _], _ => rfl), fn_d F sc_bracket rfl rfl fun cdv A outer s H vs E hr hgd hv => ?_⟩
  match vs, hv with
  | [v0, v1], _ =>
    exact (dss_cons (ds_exp (de_call (FnG.mono G_need_scale (by decide)) hr hgd (takes_of rfl rfl rfl rfl) (kbn_ofD F_need_scale 1 [] [0] fun _ _ _ _ _ _ us ws h1 h2 => match us, ws, h1, h2 with | [_], [], _, _ => rfl) rfl gd.f_need_scale F_need_scale.kp rfl (da_cons (de_var 0 rfl rfl (.inl rfl)) da_nil) dk_nil rfl rfl) (.a (.a (.s .nil)))) (dss_cons (ds_exp (de_call (FnG.mono G_need_whole (by decide)) hr hgd (takes_of rfl rfl rfl rfl) (kbn_ofD F_need_whole 1 [] [0] fun _ _ _ _ _ _ us ws h1 h2 => match us, ws, h1, h2 with | [_], [], _, _ => rfl) rfl gd.f_need_whole F_need_whole.kp rfl (da_cons (de_var 1 rfl rfl (.inr (.inl rfl))) da_nil) dk_nil rfl rfl) (.a (.a (.s .nil)))) (dss_cons (ds_if (G' := [.fz, .fz, .any]) (dt_cmp op_le vc_i2 (de_var 1 rfl rfl (.inr (.inl rfl))) (DR.dc (DE.dr de_int)) rfl) (dss_one (ds_ret de_non rfl (.a (.a (.s .nil))) (.a (.a (.s .nil))))) dss_nil (.a (.a (.s .nil)))) (dss_one (ds_ret (de_op op_sub vop_sub (de_b call_len vb_len rfl gd.b_len boot_len (dac_one (DR.dc (DE.dr (DO.de (do_lc (own := [(("row" : Str), 2)]) rfl sc_bracket.nd (blkOk_by (by rfl)) (di_val (de_ix (de_var 0 rfl rfl (.inl rfl)) de_int)) (fun _ _ _ _ _ => (dt_name 2 sc_bracket.nd rfl (.inl rfl))) (fun _ _ _ _ _ => (dtb_one (dt_cmp op_lt vc_i2 (de_ix (de_var 2 rfl rfl (.inl rfl)) de_int) (DR.dc (DE.dr (de_var 1 rfl rfl (.inr (.inl rfl))))) rfl))) (fun _ _ _ _ _ => (de_var 2 rfl rfl (.inl rfl))) (by decide) rfl (by decide) (fa_cons (.inr rfl) fa_nil)) rfl))))) de_int) rfl (.a (.a (.s .nil))) (.a (.a (.s .nil))))))))
set_option maxHeartbeats 4000000 in
theorem ok__law_cell (gd : Gd w K mg) (hsys : SysOk base) {fd : FuncData} (F : Fd K "_law_cell" st__law_cell fd) : KBn K fd ["_law_cells", "_law_spot"] 2 [] (fun us ws => us) (fun vs zs => vs) ∧ FnG P w K mg base 1 (He.ga K "_law_cell") fd ["_law_cells", "_law_spot"] (spD K mg [.fz, .lst .fz] (.fz) mf__law_cell) := by
  refine ⟨kpos_ofD F (fun _ _ _ _ _ _ us h => match us, h with | [_, _], _ => rfl), fn_d F sc__law_cell rfl rfl fun cdv A outer s H vs E hr hgd hv => ?_⟩
  match vs, hv with
  | [v0, v1], _ =>
    exact (dss_cons (ds_asg (de_op op_addX vop_add (de_ixR (dr_var 1 rfl (.at_ .lst) rfl (.inl rfl)) de_int) de_int) (dt_set (W := W0) 1 rfl (.at_ .lst) rfl (.inl rfl) de_int) (.a (.s (.s (.s (.s (.s .nil))))))) (dss_cons (ds_set (i := 2) sc__law_cell.nd rfl (.inl rfl) (de_ixR (dr_var 1 rfl (.at_ .lst) rfl (.inl rfl)) de_int) (.a (.s (.s (.s (.s (.s .nil))))))) (dss_cons (ds_set (i := 3) sc__law_cell.nd rfl (.inl rfl) (de_op op_addX vop_add (de_op op_mulX vop_mul (de_op op_mulX vop_mul de_int (de_var 2 rfl rfl (.inl rfl))) (de_var 2 rfl rfl (.inl rfl))) (de_op op_mulX vop_mul de_int (de_var 2 rfl rfl (.inl rfl)))) (.a (.s (.a (.s (.s (.s .nil))))))) (dss_cons (ds_if (G' := [.fz, .at_ v1 (.lst .fz), .fz, .fz, .any, .any]) (DW.dt (dw_and (dt_cmp op_gt vc_i2 (de_b call_len vb_len rfl gd.b_len boot_len (dac_one (DR.dc (DE.dr (de_var 0 rfl rfl (.inl rfl)))))) (DR.dc (DE.dr de_int)) rfl) (dw_and (dt_cmp op_ge vc_i2 (de_ix (de_var 0 rfl rfl (.inl rfl)) (de_op op_mod vop_mod (de_var 2 rfl rfl (.inl rfl)) (de_b call_len vb_len rfl gd.b_len boot_len (dac_one (DR.dc (DE.dr (de_var 0 rfl rfl (.inl rfl)))))))) (DR.dc (DE.dr (de_op op_pow vop_pow de_int de_int))) rfl) (dw_and1 (dt_cmp op_lt vc_i2 (de_op op_fdivW vop_fdiv (de_var 2 rfl rfl (.inl rfl)) (de_b call_len vb_len rfl gd.b_len boot_len (dac_one (DR.dc (DE.dr (de_var 0 rfl rfl (.inl rfl))))))) (DR.dc (DE.dr de_int)) rfl))))) (dss_cons (ds_set (i := 4) sc__law_cell.nd rfl (.inl rfl) (de_ix (de_var 0 rfl rfl (.inl rfl)) (de_op op_mod vop_mod (de_var 2 rfl rfl (.inl rfl)) (de_b call_len vb_len rfl gd.b_len boot_len (dac_one (DR.dc (DE.dr (de_var 0 rfl rfl (.inl rfl)))))))) (.a (.s (.a (.a (.s (.s .nil))))))) (dss_cons (ds_for (Gh := [.fz, .at_ v1 (.lst .fz), .fz, .fz, .fz, .any]) (passes_of rfl) rfl (di_rng1 rfl gd.b_range (da_cons (de_op op_fdivW vop_fdiv (de_var 2 rfl rfl (.inl rfl)) (de_b call_len vb_len rfl gd.b_len boot_len (dac_one (DR.dc (DE.dr (de_var 0 rfl rfl (.inl rfl))))))) da_nil)) (dt_name 5 sc__law_cell.nd rfl (.inl rfl)) (dss_cons (ds_set (i := 4) sc__law_cell.nd rfl (.inl rfl) (de_op op_fdivW vop_fdiv (de_var 4 rfl rfl (.inl rfl)) de_int) (.a (.s (.a (.a (.a (.a .nil))))))) (DSs.wk dss_nil (.s (.s (.s (.s (.s (.a .nil)))))))) (.s (.s (.s (.s (.s (.s .nil)))))) (.a (.s (.a (.a (.a (.s .nil))))))) (dss_cons (ds_if (G' := [.fz, .at_ v1 (.lst .fz), .fz, .fz, .fz, .any]) (dt_cmp op_gt vc_i2 (de_var 4 rfl rfl (.inl rfl)) (DR.dc (DE.dr de_int)) rfl) (dss_one (ds_ret (de_op op_mod vop_mod (de_var 4 rfl rfl (.inl rfl)) de_int) rfl (.a (.s (.a (.a (.a (.s .nil)))))) (.a (.s (.a (.a (.a (.s .nil)))))))) dss_nil (.a (.s (.a (.a (.a (.s .nil))))))) (DSs.wk dss_nil (.s (.s (.s (.s (.a (.s .nil)))))))))) dss_nil (.a (.s (.a (.a (.s (.s .nil))))))) (dss_cons (ds_if (G' := [.fz, .at_ v1 (.lst .fz), .fz, .fz, .any, .any]) (dt_cmp op_gt vc_i2 (de_b call_len vb_len rfl gd.b_len boot_len (dac_one (DR.dc (DE.dr (de_var 0 rfl rfl (.inl rfl)))))) (DR.dc (DE.dr de_int)) rfl) (dss_cons (ds_set (i := 3) sc__law_cell.nd rfl (.inl rfl) (de_op op_addX vop_add (de_var 3 rfl rfl (.inl rfl)) (de_op op_mulX vop_mul (de_op op_mod vop_mod (de_ix (de_var 0 rfl rfl (.inl rfl)) (de_op op_mod vop_mod (de_var 2 rfl rfl (.inl rfl)) (de_b call_len vb_len rfl gd.b_len boot_len (dac_one (DR.dc (DE.dr (de_var 0 rfl rfl (.inl rfl)))))))) de_int) (de_op op_addX vop_add de_int (de_op op_fdivW vop_fdiv (de_var 2 rfl rfl (.inl rfl)) (de_b call_len vb_len rfl gd.b_len boot_len (dac_one (DR.dc (DE.dr (de_var 0 rfl rfl (.inl rfl)))))))))) (.a (.s (.a (.a (.s (.s .nil))))))) dss_nil) dss_nil (.a (.s (.a (.a (.s (.s .nil))))))) (dss_one (ds_ret (de_op op_fdivW vop_fdiv (de_op op_mod vop_mod (de_op op_pow vop_pow (de_op op_mod vop_mod (de_var 3 rfl rfl (.inl rfl)) de_int) de_int) de_int) de_int) rfl (.a (.s (.a (.a (.s (.s .nil)))))) (.a (.s (.a (.a (.s (.s .nil)))))))))))))
set_option maxHeartbeats 4000000 in
theorem ok__law_scale (gd : Gd w K mg) (hsys : SysOk base) {fd : FuncData} (F : Fd K "_law_scale" st__law_scale fd) : KBn K fd ["_law_cells", "_law_spot"] 2 [] (fun us ws => us) (fun vs zs => vs) ∧ FnG P w K mg base 2 (He.ga K "_law_scale") fd ["_law_cells", "_law_spot"] (spD K mg [.fz, .lst .fz] (.fz) mf__law_scale) := by
  obtain ⟨fd__law_cell, F__law_cell⟩ := gd.d__law_cell
  obtain ⟨K__law_cell, G__law_cell⟩ := ok__law_cell (P := P) (w := w) gd hsys F__law_cell
  refine ⟨kpos_ofD F (fun _ _ _ _ _ _ us h => match us, h with | [_, _], _ => rfl), fn_d F sc__law_scale rfl rfl fun cdv A outer s H vs E hr hgd hv => ?_⟩
  match vs, hv with
  | [v0, v1], _ =>
    exact (dss_cons (ds_par2 rfl sc__law_scale.nd rfl rfl (by decide) rfl rfl (dao_O (DE.doz (de_callO (FnG.mono G__law_cell (by decide)) hr hgd (takes_of rfl rfl rfl rfl) K__law_cell rfl gd.f__law_cell F__law_cell.kp rfl (dg_val (de_var 0 rfl rfl (.inl rfl)) (dg_ownA 1 rfl rfl (.inl rfl) dg_nil)))) (dao_O (DE.doz (de_callO (FnG.mono G__law_cell (by decide)) hr hgd (takes_of rfl rfl rfl rfl) K__law_cell rfl gd.f__law_cell F__law_cell.kp rfl (dg_val (de_var 0 rfl rfl (.inl rfl)) (dg_ownA 1 rfl rfl (.inl rfl) dg_nil)))) dao_nil)) (.a (.s (.s (.s (.s (.s (.s (.s (.s (.s (.s .nil))))))))))) rfl) (dss_cons (ds_par2 rfl sc__law_scale.nd rfl rfl (by decide) rfl rfl (dao_O (do_lst (da_cons de_int da_nil)) (dao_O (do_lst da_nil) dao_nil)) (.a (.s (.a (.a (.s (.s (.s (.s (.s (.s (.s .nil))))))))))) rfl) (dss_cons (ds_for (Gh := [.fz, .at_ v1 (.lst .fz), .fz, .fz, .lst .fz, .lst .fz, .any, .any, .any, .any, .any]) (passes_of rfl) rfl (di_rng1 rfl gd.b_range (da_cons (de_ix (DO.de (do_lst (da_cons de_int (da_cons de_int (da_cons de_int (da_cons de_int (da_cons de_int (da_cons de_int (da_cons de_int da_nil)))))))) rfl) (de_op op_mod vop_mod (de_var 2 rfl rfl (.inl rfl)) de_int)) da_nil)) (dt_name 6 sc__law_scale.nd rfl (.inl rfl)) (dss_cons (ds_set (i := 7) sc__law_scale.nd rfl (.inl rfl) (de_callO (FnG.mono G__law_cell (by decide)) hr hgd (takes_of rfl rfl rfl rfl) K__law_cell rfl gd.f__law_cell F__law_cell.kp rfl (dg_val (de_var 0 rfl rfl (.inl rfl)) (dg_ownA 1 rfl rfl (.inl rfl) dg_nil))) (.a (.s (.a (.a (.a (.a (.a (.s (.s (.s (.s .nil)))))))))))) (dss_cons (ds_exp (de_mut 4 PySem.F.slot_list_append PySem.F.type_list_append mt_append vm_append rfl .lst rfl (.inl rfl) (da_cons (de_op op_addX vop_add (de_op op_addX vop_add (de_ixR (dr_var 4 rfl .lst rfl (.inl rfl)) (DE.tr (de_neg de_int) rfl)) de_int) (de_ix (DO.de (do_lst (da_cons (de_op op_mod vop_mod (de_var 7 rfl rfl (.inl rfl)) de_int) (da_cons (de_op op_mod vop_mod (de_var 7 rfl rfl (.inl rfl)) de_int) (da_cons (de_op op_mod vop_mod (de_var 7 rfl rfl (.inl rfl)) (de_op op_pow vop_pow de_int de_int)) da_nil)))) rfl) (de_op op_mod vop_mod (de_op op_fdivW vop_fdiv (de_var 7 rfl rfl (.inl rfl)) de_int) de_int))) da_nil)) (.a (.s (.a (.a (.a (.a (.a (.a (.s (.s (.s .nil)))))))))))) (DSs.wk dss_nil (.s (.s (.s (.s (.s (.s (.a (.a (.s (.s (.s .nil)))))))))))))) (.s (.s (.s (.s (.s (.s (.s (.s (.s (.s (.s .nil))))))))))) (.a (.s (.a (.a (.a (.a (.s (.s (.s (.s (.s .nil)))))))))))) (DSs.freeze 4 rfl rfl (dss_cons (ds_for (Gh := [.fz, .at_ v1 (.lst .fz), .fz, .fz, .fz, .lst .fz, .any, .any, .any, .any, .any]) (passes_of rfl) rfl (di_enumA rfl gd.b_enumerate (da_cons (de_var 4 rfl rfl (.inl rfl)) da_nil)) (dt_tup rfl (dts_cons (dt_name 6 sc__law_scale.nd rfl (.inl rfl)) (dts_cons (dt_name 8 sc__law_scale.nd rfl (.inl rfl)) dts_nil))) (dss_cons (ds_set (i := 9) sc__law_scale.nd rfl (.inl rfl) (de_callO (FnG.mono G__law_cell (by decide)) hr hgd (takes_of rfl rfl rfl rfl) K__law_cell rfl gd.f__law_cell F__law_cell.kp rfl (dg_val (de_var 0 rfl rfl (.inl rfl)) (dg_ownA 1 rfl rfl (.inl rfl) dg_nil))) (.a (.s (.a (.a (.a (.a (.a (.s (.a (.s (.s .nil)))))))))))) (dss_cons (ds_set (i := 10) sc__law_scale.nd rfl (.inl rfl) (de_ix (DO.de (do_lst (da_cons de_int (da_cons de_int (da_cons (de_op op_addX vop_add de_int (de_op op_mod vop_mod (de_var 9 rfl rfl (.inl rfl)) de_int)) (da_cons de_int (da_cons de_int (da_cons de_int da_nil))))))) rfl) (de_op op_mod vop_mod (de_op op_fdivW vop_fdiv (de_var 9 rfl rfl (.inl rfl)) de_int) de_int)) (.a (.s (.a (.a (.a (.a (.a (.s (.a (.a (.s .nil)))))))))))) (dss_cons (ds_exp (de_mut 5 PySem.F.slot_list_append PySem.F.type_list_append mt_append vm_append rfl .lst rfl (.inl rfl) (da_cons (de_tup (da_cons (de_var 8 rfl rfl (.inl rfl)) (da_cons (de_ix (DO.de (do_lst (da_cons (de_op op_mod vop_mod (de_var 9 rfl rfl (.inl rfl)) de_int) (da_cons (de_op op_sub vop_sub (de_op op_mod vop_mod (de_var 9 rfl rfl (.inl rfl)) de_int) de_int) (da_cons de_int (da_cons (de_op op_mod vop_mod (de_var 9 rfl rfl (.inl rfl)) de_int) da_nil))))) rfl) (de_op op_mod vop_mod (de_op op_fdivW vop_fdiv (de_var 9 rfl rfl (.inl rfl)) de_int) de_int)) (da_cons (de_var 10 rfl rfl (.inl rfl)) da_nil)))) da_nil)) (.a (.s (.a (.a (.a (.a (.a (.s (.a (.a (.a .nil)))))))))))) (DSs.wk dss_nil (.s (.s (.s (.s (.s (.s (.a (.s (.a (.a (.a .nil))))))))))))))) (.s (.s (.s (.s (.s (.s (.s (.s (.s (.s (.s .nil))))))))))) (.a (.s (.a (.a (.a (.a (.s (.s (.s (.s (.s .nil)))))))))))) (dss_one (ds_ret (de_tup (da_cons (de_ix (DO.de (do_lst (da_cons de_str (da_cons de_str (da_cons de_str da_nil)))) rfl) (de_op op_mod vop_mod (de_var 3 rfl rfl (.inl rfl)) de_int)) (da_cons (de_tupc rfl gd.b_tuple (dr_var 5 rfl .lst rfl (.inl rfl)) boot_tuple) da_nil))) rfl (.a (.s (.a (.a (.a (.a (.s (.s (.s (.s (.s .nil))))))))))) (.a (.s (.a (.a (.a (.a (.s (.s (.s (.s (.s .nil))))))))))))))))))
set_option maxHeartbeats 4000000 in
theorem ok__law_turned (gd : Gd w K mg) (hsys : SysOk base) {fd : FuncData} (F : Fd K "_law_turned" st__law_turned fd) : KBn K fd ["_law_scale_so"] 1 [] (fun us ws => us) (fun vs zs => vs) ∧ FnG P w K mg base 1 (He.ga K "_law_turned") fd ["_law_scale_so"] (spD K mg [.fz] (.fz) mf__law_turned) := by
  refine ⟨kpos_ofD F (fun _ _ _ _ _ _ us h => match us, h with | [_], _ => rfl), fn_d F sc__law_turned rfl rfl fun cdv A outer s H vs E hr hgd hv => ?_⟩
  match vs, hv with
  | [v0], _ =>
    exact (dss_cons (ds_asg (de_var 0 rfl rfl (.inl rfl)) (dt_tup rfl (dts_cons (dt_name 1 sc__law_turned.nd rfl (.inl rfl)) (dts_cons (dt_name 2 sc__law_turned.nd rfl (.inl rfl)) dts_nil))) (.a (.s (.s (.s (.s (.s .nil))))))) (dss_one (ds_ret (de_tup (da_cons (de_dget (u64 hr) (de_disp (dpr_str de_str (dpr_str de_str (dpr_str de_str dpr_nil))) (by decide) (by decide) rfl rfl (by simp) (by decide)) (de_var 1 rfl rfl (.inl rfl))) (da_cons (de_tupc rfl gd.b_tuple (DE.dr (DO.de (do_lc (own := [(("_law_a" : Str), 3), (("_law_b" : Str), 4), (("_law_c" : Str), 5)]) rfl sc__law_turned.nd (blkOk_by (by rfl)) (di_val (de_var 2 rfl rfl (.inl rfl))) (fun _ _ _ _ _ => (dt_tup rfl (dts_cons (dt_name 3 sc__law_turned.nd rfl (.inl rfl)) (dts_cons (dt_name 4 sc__law_turned.nd rfl (.inl rfl)) (dts_cons (dt_name 5 sc__law_turned.nd rfl (.inl rfl)) dts_nil))))) (fun _ _ _ _ _ => dtb_nil) (fun _ _ _ _ _ => (de_tup (da_cons (de_var 3 rfl rfl (.inl rfl)) (da_cons (de_neg (de_var 4 rfl rfl (.inl rfl))) (da_cons (de_var 5 rfl rfl (.inl rfl)) da_nil))))) (by decide) rfl (by decide) (fa_cons (.inr rfl) (fa_cons (.inr rfl) (fa_cons (.inr rfl) fa_nil)))) rfl)) boot_tuple) da_nil))) rfl (.a (.a (.a (.s (.s (.s .nil)))))) (.a (.a (.a (.s (.s (.s .nil)))))))))
set_option maxHeartbeats 4000000 in
theorem ok__law_beyond (gd : Gd w K mg) (hsys : SysOk base) {fd : FuncData} (F : Fd K "_law_beyond" st__law_beyond fd) : KBn K fd ["_law_scale_so", "_law_border"] 2 [] (fun us ws => us) (fun vs zs => vs) ∧ FnG P w K mg base 1 (He.ga K "_law_beyond") fd ["_law_scale_so", "_law_border"] (spD K mg [.fz, .fz] (.fz) mf__law_beyond) := by
  refine ⟨kpos_ofD F (fun _ _ _ _ _ _ us h => match us, h with | [_, _], _ => rfl), fn_d F sc__law_beyond rfl rfl fun cdv A outer s H vs E hr hgd hv => ?_⟩
  match vs, hv with
  | [v0, v1], _ =>
    exact (dss_cons (ds_asg (de_var 0 rfl rfl (.inl rfl)) (dt_tup rfl (dts_cons (dt_name 2 sc__law_beyond.nd rfl (.inl rfl)) (dts_cons (dt_name 3 sc__law_beyond.nd rfl (.inl rfl)) dts_nil))) (.a (.a (.s (.s (.s (.s (.s .nil)))))))) (dss_cons (ds_set (i := 4) sc__law_beyond.nd rfl (.inl rfl) (de_ix (DO.de (do_lc (own := [(("_law_row" : Str), 6)]) rfl sc__law_beyond.nd (blkOk_by (by rfl)) (di_val (de_var 3 rfl rfl (.inl rfl))) (fun _ _ _ _ _ => (dt_name 6 sc__law_beyond.nd rfl (.inl rfl))) (fun _ _ _ _ _ => (dtb_one (dt_cmp op_le vc_i2 (de_ix (de_var 6 rfl rfl (.inl rfl)) de_int) (DR.dc (DE.dr (de_var 1 rfl rfl (.inr (.inl rfl))))) rfl))) (fun _ _ _ _ _ => (de_var 6 rfl rfl (.inl rfl))) (by decide) rfl (by decide) (fa_cons (.inr rfl) fa_nil)) rfl) (de_neg de_int)) (.a (.a (.a (.a (.s (.s (.s .nil)))))))) (dss_cons (ds_setLc (own := [(("_law_row" : Str), 6)]) rfl sc__law_beyond.nd rfl rfl (sw_true rfl rfl rfl rfl) (blkOk_by (by rfl)) (di_val (de_var 3 rfl rfl (.inl rfl))) (fun _ _ _ _ _ => (dt_name 6 sc__law_beyond.nd rfl (.inl rfl))) (fun _ _ _ _ _ => (dtb_one (dt_cmp op_gt vc_i2 (de_ix (de_var 6 rfl rfl (.inl rfl)) de_int) (DR.dc (DE.dr (de_var 1 rfl rfl (.inr (.inl rfl))))) rfl))) (fun _ _ _ _ _ => (de_op op_addX vop_add (de_tup (da_cons (de_op op_sub vop_sub (de_ix (de_var 6 rfl rfl (.inl rfl)) de_int) (de_var 1 rfl rfl (.inr (.inl rfl)))) da_nil)) (de_slX (DE.dr (de_var 6 rfl rfl (.inl rfl))) (dp_some de_int) dp_none))) (by decide) rfl (by decide) (fa_cons (.inr rfl) fa_nil) (.a (.a (.a (.a (.a (.s (.s .nil)))))))) (DSs.freeze 5 rfl rfl (dss_one (ds_ret (de_tup (da_cons (de_var 2 rfl rfl (.inl rfl)) (da_cons (de_op op_addX vop_add (de_tup (da_cons (de_op op_addX vop_add (de_tup (da_cons de_int da_nil)) (de_slX (DE.dr (de_var 4 rfl rfl (.inl rfl))) (dp_some de_int) dp_none)) da_nil)) (de_tupc rfl gd.b_tuple (DE.dr (de_var 5 rfl rfl (.inl rfl))) boot_tuple)) da_nil))) rfl (.a (.a (.a (.a (.a (.a (.s .nil))))))) (.a (.a (.a (.a (.a (.a (.s .nil)))))))))))))
set_option maxHeartbeats 4000000 in
theorem ok__law_with_row (gd : Gd w K mg) (hsys : SysOk base) {fd : FuncData} (F : Fd K "_law_with_row" st__law_with_row fd) : KBn K fd ["_law_scale_so", "_law_border"] 2 [] (fun us ws => us) (fun vs zs => vs) ∧ FnG P w K mg base 1 (He.ga K "_law_with_row") fd ["_law_scale_so", "_law_border"] (spD K mg [.fz, .fz] (.fz) mf__law_with_row) := by
  refine ⟨kpos_ofD F (fun _ _ _ _ _ _ us h => match us, h with | [_, _], _ => rfl), fn_d F sc__law_with_row rfl rfl fun cdv A outer s H vs E hr hgd hv => ?_⟩
  match vs, hv with
  | [v0, v1], _ =>
    exact (dss_cons (ds_asg (de_var 0 rfl rfl (.inl rfl)) (dt_tup rfl (dts_cons (dt_name 2 sc__law_with_row.nd rfl (.inl rfl)) (dts_cons (dt_name 3 sc__law_with_row.nd rfl (.inl rfl)) dts_nil))) (.a (.a (.s (.s (.s (.s (.s .nil)))))))) (dss_cons (ds_par2 rfl sc__law_with_row.nd rfl rfl (by decide) rfl rfl (dao_O (DE.doz (DO.de (do_lc (own := [(("_law_row" : Str), 6)]) rfl sc__law_with_row.nd (blkOk_by (by rfl)) (di_val (de_var 3 rfl rfl (.inl rfl))) (fun _ _ _ _ _ => (dt_name 6 sc__law_with_row.nd rfl (.inl rfl))) (fun _ _ _ _ _ => (dtb_one (dt_cmp op_le vc_i2 (de_ix (de_var 6 rfl rfl (.inl rfl)) de_int) (DR.dc (DE.dr (de_var 1 rfl rfl (.inr (.inl rfl))))) rfl))) (fun _ _ _ _ _ => (de_var 6 rfl rfl (.inl rfl))) (by decide) rfl (by decide) (fa_cons (.inr rfl) fa_nil)) rfl)) (dao_O (DE.doz (DO.de (do_lc (own := [(("_law_row" : Str), 6)]) rfl sc__law_with_row.nd (blkOk_by (by rfl)) (di_val (de_var 3 rfl rfl (.inl rfl))) (fun _ _ _ _ _ => (dt_name 6 sc__law_with_row.nd rfl (.inl rfl))) (fun _ _ _ _ _ => (dtb_one (dt_cmp op_gt vc_i2 (de_ix (de_var 6 rfl rfl (.inl rfl)) de_int) (DR.dc (DE.dr (de_var 1 rfl rfl (.inr (.inl rfl))))) rfl))) (fun _ _ _ _ _ => (de_var 6 rfl rfl (.inl rfl))) (by decide) rfl (by decide) (fa_cons (.inr rfl) fa_nil)) rfl)) dao_nil)) (.a (.a (.a (.a (.s (.s (.s .nil))))))) rfl) (dss_cons (ds_if (G' := [.fz, .fz, .fz, .fz, .fz, .fz, .any]) (DW.dt (dw_or (dt_cmp (op_eqX (u64 hr)) vc_eq (de_ix (de_ix (de_var 4 rfl rfl (.inl rfl)) (de_neg de_int)) de_int) (DR.dc (DE.dr (de_var 1 rfl rfl (.inr (.inl rfl))))) rfl) (dw_or1 (dt_cmp op_gt vc_i2 (de_b call_len vb_len rfl gd.b_len boot_len (dac_one (DR.dc (DE.dr (de_var 3 rfl rfl (.inl rfl)))))) (DR.dc (DE.dr de_int)) rfl)))) (dss_one (ds_ret (de_var 0 rfl rfl (.inl rfl)) rfl (.a (.a (.a (.a (.a (.a (.s .nil))))))) (.a (.a (.a (.a (.a (.a (.s .nil))))))))) dss_nil (.a (.a (.a (.a (.a (.a (.s .nil)))))))) (dss_one (ds_ret (de_tup (da_cons (de_var 2 rfl rfl (.inl rfl)) (da_cons (de_op op_addX vop_add (de_op op_addX vop_add (de_tupc rfl gd.b_tuple (DE.dr (de_var 4 rfl rfl (.inl rfl))) boot_tuple) (de_tup (da_cons (de_op op_addX vop_add (de_tup (da_cons (de_var 1 rfl rfl (.inr (.inl rfl))) da_nil)) (de_slX (DE.dr (de_ix (de_var 4 rfl rfl (.inl rfl)) (de_neg de_int))) (dp_some de_int) dp_none)) da_nil))) (de_tupc rfl gd.b_tuple (DE.dr (de_var 5 rfl rfl (.inl rfl))) boot_tuple)) da_nil))) rfl (.a (.a (.a (.a (.a (.a (.s .nil))))))) (.a (.a (.a (.a (.a (.a (.s .nil))))))))))))
set_option maxHeartbeats 4000000 in
theorem ok__law_right (gd : Gd w K mg) (hsys : SysOk base) {fd : FuncData} (F : Fd K "_law_right" st__law_right fd) : KBn K fd ["_law_scale_so", "_law_amount_so", "_law_border"] 3 [] (fun us ws => us) (fun vs zs => vs) ∧ FnG P w K mg base 7 (He.ga K "_law_right") fd ["_law_scale_so", "_law_amount_so", "_law_border"] (spD K mg [.fz, .fz, .fz] (.fz) mf__law_right) := by
  obtain ⟨fd_is_scale, F_is_scale⟩ := gd.d_is_scale
  obtain ⟨K_is_scale, G_is_scale⟩ := ok_is_scale (P := P) (w := w) gd hsys F_is_scale
  obtain ⟨fd_scale_together, F_scale_together⟩ := gd.d_scale_together
  obtain ⟨K_scale_together, G_scale_together⟩ := ok_scale_together (P := P) (w := w) gd hsys F_scale_together
  obtain ⟨fd_tax, F_tax⟩ := gd.d_tax
  obtain ⟨K_tax, G_tax⟩ := ok_tax (P := P) (w := w) gd hsys F_tax
  obtain ⟨fd__law_turned, F__law_turned⟩ := gd.d__law_turned
  obtain ⟨K__law_turned, G__law_turned⟩ := ok__law_turned (P := P) (w := w) gd hsys F__law_turned
  obtain ⟨fd__law_beyond, F__law_beyond⟩ := gd.d__law_beyond
  obtain ⟨K__law_beyond, G__law_beyond⟩ := ok__law_beyond (P := P) (w := w) gd hsys F__law_beyond
  obtain ⟨fd__law_with_row, F__law_with_row⟩ := gd.d__law_with_row
  obtain ⟨K__law_with_row, G__law_with_row⟩ := ok__law_with_row (P := P) (w := w) gd hsys F__law_with_row
  refine ⟨kpos_ofD F (fun _ _ _ _ _ _ us h => match us, h with | [_, _, _], _ => rfl), fn_d F sc__law_right rfl rfl fun cdv A outer s H vs E hr hgd hv => ?_⟩
  match vs, hv with
  | [v0, v1, v2], _ =>
    refine dss_cons (G1 := [.fz, .fz, .fz, .fz, .fz, .any, .any, .any, .any, .any, .any]) (ds_par2 rfl sc__law_right.nd rfl rfl (by decide) rfl rfl (dao_O (DE.doz (de_call (FnG.mono G_tax (by decide)) hr hgd (takes_of rfl rfl rfl rfl) (kbn_ofD F_tax 2 [] [0, 1] fun _ _ _ _ _ _ us ws h1 h2 => match us, ws, h1, h2 with | [_, _], [], _, _ => rfl) rfl gd.f_tax F_tax.kp rfl (da_cons (de_var 0 rfl rfl (.inl rfl)) (da_cons (de_var 1 rfl rfl (.inl rfl)) da_nil)) dk_nil rfl rfl)) (dao_O (DE.doz (de_call (FnG.mono G_tax (by decide)) hr hgd (takes_of rfl rfl rfl rfl) (kbn_ofD F_tax 2 [] [0, 1] fun _ _ _ _ _ _ us ws h1 h2 => match us, ws, h1, h2 with | [_, _], [], _, _ => rfl) rfl gd.f_tax F_tax.kp rfl (da_cons (de_call (FnG.mono G__law_turned (by decide)) hr hgd (takes_of rfl rfl rfl rfl) (kbn_ofD F__law_turned 1 [] [0] fun _ _ _ _ _ _ us ws h1 h2 => match us, ws, h1, h2 with | [_], [], _, _ => rfl) rfl gd.f__law_turned F__law_turned.kp rfl (da_cons (de_var 0 rfl rfl (.inl rfl)) da_nil) dk_nil rfl rfl) (da_cons (de_var 1 rfl rfl (.inl rfl)) da_nil)) dk_nil rfl rfl)) dao_nil)) (.a (.a (.a (.s (.s (.s (.s (.s (.s (.s (.s .nil))))))))))) rfl) ?_
    refine dss_cons (G1 := [.fz, .fz, .fz, .fz, .fz, .any, .any, .any, .any, .any, .any]) (ds_if (G' := [.fz, .fz, .fz, .fz, .fz, .any, .any, .any, .any, .any, .any]) (DW.dt (dw_and (dt_cmp (op_neX (u64 hr)) vc_ne (de_ix (de_var 0 rfl rfl (.inl rfl)) de_int) (DR.dc (DE.dr de_str)) rfl) (dw_and1 (dt_cmp (op_neX (u64 hr)) vc_ne (de_var 3 rfl rfl (.inl rfl)) (DR.dc (DE.dr (de_neg (de_var 4 rfl rfl (.inl rfl))))) rfl)))) (dss_one (ds_ret de_bl rfl (.a (.a (.a (.a (.a (.s (.s (.s (.s (.s (.s .nil))))))))))) (.a (.a (.a (.a (.a (.s (.s (.s (.s (.s (.s .nil))))))))))))) dss_nil (.a (.a (.a (.a (.a (.s (.s (.s (.s (.s (.s .nil)))))))))))) ?_
    refine dss_cons (G1 := [.fz, .fz, .fz, .fz, .fz, .any, .any, .any, .any, .any, .any]) (ds_if (G' := [.fz, .fz, .fz, .fz, .fz, .any, .any, .any, .any, .any, .any]) (DW.dt (dw_or (dt_cmp (op_neX (u64 hr)) vc_ne (de_call (FnG.mono G_tax (by decide)) hr hgd (takes_of rfl rfl rfl rfl) (kbn_ofD F_tax 2 [] [0, 1] fun _ _ _ _ _ _ us ws h1 h2 => match us, ws, h1, h2 with | [_, _], [], _, _ => rfl) rfl gd.f_tax F_tax.kp rfl (da_cons (de_call (FnG.mono G__law_with_row (by decide)) hr hgd (takes_of rfl rfl rfl rfl) (kbn_ofD F__law_with_row 2 [] [0, 1] fun _ _ _ _ _ _ us ws h1 h2 => match us, ws, h1, h2 with | [_, _], [], _, _ => rfl) rfl gd.f__law_with_row F__law_with_row.kp rfl (da_cons (de_var 0 rfl rfl (.inl rfl)) (da_cons (de_var 2 rfl rfl (.inl rfl)) da_nil)) dk_nil rfl rfl) (da_cons (de_var 1 rfl rfl (.inl rfl)) da_nil)) dk_nil rfl rfl) (DR.dc (DE.dr (de_var 3 rfl rfl (.inl rfl)))) rfl) (dw_or1 (dt_not (dt_val (de_call (FnG.mono G_is_scale (by decide)) hr hgd (takes_of rfl rfl rfl rfl) (kbn_ofD F_is_scale 1 [] [0] fun _ _ _ _ _ _ us ws h1 h2 => match us, ws, h1, h2 with | [_], [], _, _ => rfl) rfl gd.f_is_scale F_is_scale.kp rfl (da_cons (de_call (FnG.mono G__law_with_row (by decide)) hr hgd (takes_of rfl rfl rfl rfl) (kbn_ofD F__law_with_row 2 [] [0, 1] fun _ _ _ _ _ _ us ws h1 h2 => match us, ws, h1, h2 with | [_, _], [], _, _ => rfl) rfl gd.f__law_with_row F__law_with_row.kp rfl (da_cons (de_var 0 rfl rfl (.inl rfl)) (da_cons (de_var 2 rfl rfl (.inl rfl)) da_nil)) dk_nil rfl rfl) da_nil) dk_nil rfl rfl)))))) (dss_one (ds_ret de_bl rfl (.a (.a (.a (.a (.a (.s (.s (.s (.s (.s (.s .nil))))))))))) (.a (.a (.a (.a (.a (.s (.s (.s (.s (.s (.s .nil))))))))))))) dss_nil (.a (.a (.a (.a (.a (.s (.s (.s (.s (.s (.s .nil)))))))))))) ?_
    refine dss_cons (G1 := [.fz, .fz, .fz, .fz, .fz, .fz, .any, .any, .any, .any, .any]) (ds_set (i := 5) sc__law_right.nd rfl (.inl rfl) (de_op op_addX vop_add (de_call (FnG.mono G_tax (by decide)) hr hgd (takes_of rfl rfl rfl rfl) (kbn_ofD F_tax 2 [] [0, 1] fun _ _ _ _ _ _ us ws h1 h2 => match us, ws, h1, h2 with | [_, _], [], _, _ => rfl) rfl gd.f_tax F_tax.kp rfl (da_cons (de_var 0 rfl rfl (.inl rfl)) (da_cons (de_b (call_min2 rfl) vb_min rfl gd.b_min boot_min (dac_of (da_cons (de_var 1 rfl rfl (.inl rfl)) (da_cons (de_var 2 rfl rfl (.inl rfl)) da_nil)))) da_nil)) dk_nil rfl rfl) (de_call (FnG.mono G_tax (by decide)) hr hgd (takes_of rfl rfl rfl rfl) (kbn_ofD F_tax 2 [] [0, 1] fun _ _ _ _ _ _ us ws h1 h2 => match us, ws, h1, h2 with | [_, _], [], _, _ => rfl) rfl gd.f_tax F_tax.kp rfl (da_cons (de_call (FnG.mono G__law_beyond (by decide)) hr hgd (takes_of rfl rfl rfl rfl) (kbn_ofD F__law_beyond 2 [] [0, 1] fun _ _ _ _ _ _ us ws h1 h2 => match us, ws, h1, h2 with | [_, _], [], _, _ => rfl) rfl gd.f__law_beyond F__law_beyond.kp rfl (da_cons (de_var 0 rfl rfl (.inl rfl)) (da_cons (de_var 2 rfl rfl (.inl rfl)) da_nil)) dk_nil rfl rfl) (da_cons (de_op op_sub vop_sub (de_var 1 rfl rfl (.inl rfl)) (de_var 2 rfl rfl (.inl rfl))) da_nil)) dk_nil rfl rfl)) (.a (.a (.a (.a (.a (.s (.s (.s (.s (.s (.s .nil)))))))))))) ?_
    refine dss_cons (G1 := [.fz, .fz, .fz, .fz, .fz, .fz, .any, .any, .any, .any, .any]) (ds_if (G' := [.fz, .fz, .fz, .fz, .fz, .fz, .any, .any, .any, .any, .any]) (dt_not (dt_chain op_le op_le vc_i2 vc_i2 (de_neg de_int) (de_op op_sub vop_sub (de_var 5 rfl rfl (.inl rfl)) (de_var 3 rfl rfl (.inl rfl))) de_int)) (dss_one (ds_ret de_bl rfl (.a (.a (.a (.a (.a (.a (.s (.s (.s (.s (.s .nil))))))))))) (.a (.a (.a (.a (.a (.a (.s (.s (.s (.s (.s .nil))))))))))))) dss_nil (.a (.a (.a (.a (.a (.a (.s (.s (.s (.s (.s .nil)))))))))))) ?_
    refine dss_cons (G1 := [.fz, .fz, .fz, .fz, .fz, .fz, .lst .fz, .any, .any, .any, .any]) (ds_setLc (own := [(("_law_row" : Str), 10)]) rfl sc__law_right.nd rfl rfl (sw_true rfl rfl rfl rfl) (blkOk_by (by rfl)) (di_val (de_ix (de_var 0 rfl rfl (.inl rfl)) de_int)) (fun _ _ _ _ _ => (dt_name 10 sc__law_right.nd rfl (.inl rfl))) (fun _ _ _ _ _ => (dtb_one (dt_cmp op_lt vc_i2 (de_ix (de_var 10 rfl rfl (.inl rfl)) de_int) (DR.dc (DE.dr de_int)) rfl))) (fun _ _ _ _ _ => (de_var 10 rfl rfl (.inl rfl))) (by decide) rfl (by decide) (fa_cons (.inr rfl) fa_nil) (.a (.a (.a (.a (.a (.a (.s (.s (.s (.s (.s .nil)))))))))))) ?_
    refine DSs.freeze 6 rfl rfl (?_ : DSs _ _ _ [.fz, .fz, .fz, .fz, .fz, .fz, .fz, .any, .any, .any, .any] _ _ _)
    refine dss_cons (G1 := [.fz, .fz, .fz, .fz, .fz, .fz, .fz, .any, .any, .any, .any]) (ds_if (G' := [.fz, .fz, .fz, .fz, .fz, .fz, .fz, .any, .any, .any, .any]) (DW.dt (dw_and (dt_cmp (op_eqX (u64 hr)) vc_eq (de_var 6 rfl rfl (.inl rfl)) (DR.dc (DE.dr (DO.de (do_lst da_nil) rfl))) rfl) (dw_and1 (dt_not (dt_chain op_le op_le vc_i2 vc_i2 (de_call (FnG.mono G_tax (by decide)) hr hgd (takes_of rfl rfl rfl rfl) (kbn_ofD F_tax 2 [] [0, 1] fun _ _ _ _ _ _ us ws h1 h2 => match us, ws, h1, h2 with | [_, _], [], _, _ => rfl) rfl gd.f_tax F_tax.kp rfl (da_cons (de_var 0 rfl rfl (.inl rfl)) (da_cons (de_op op_sub vop_sub (de_var 1 rfl rfl (.inl rfl)) de_int) da_nil)) dk_nil rfl rfl) (de_var 3 rfl rfl (.inl rfl)) (de_call (FnG.mono G_tax (by decide)) hr hgd (takes_of rfl rfl rfl rfl) (kbn_ofD F_tax 2 [] [0, 1] fun _ _ _ _ _ _ us ws h1 h2 => match us, ws, h1, h2 with | [_, _], [], _, _ => rfl) rfl gd.f_tax F_tax.kp rfl (da_cons (de_var 0 rfl rfl (.inl rfl)) (da_cons (de_op op_addX vop_add (de_var 1 rfl rfl (.inl rfl)) de_int) da_nil)) dk_nil rfl rfl)))))) (dss_one (ds_ret de_bl rfl (.a (.a (.a (.a (.a (.a (.a (.s (.s (.s (.s .nil))))))))))) (.a (.a (.a (.a (.a (.a (.a (.s (.s (.s (.s .nil))))))))))))) dss_nil (.a (.a (.a (.a (.a (.a (.a (.s (.s (.s (.s .nil)))))))))))) ?_
    refine dss_cons (G1 := [.fz, .fz, .fz, .fz, .fz, .fz, .fz, .fz, .fz, .fz, .any]) (ds_asg (de_call (FnG.mono G_scale_together (by decide)) hr hgd (takes_of rfl rfl rfl rfl) (kbn_ofD F_scale_together 1 [] [0] fun _ _ _ _ _ _ us ws h1 h2 => match us, ws, h1, h2 with | [_], [], _, _ => rfl) rfl gd.f_scale_together F_scale_together.kp rfl (da_cons (de_var 0 rfl rfl (.inl rfl)) da_nil) dk_nil rfl rfl) (dt_tup rfl (dts_cons (dt_name 7 sc__law_right.nd rfl (.inl rfl)) (dts_cons (dt_name 8 sc__law_right.nd rfl (.inr rfl)) (dts_cons (dt_name 9 sc__law_right.nd rfl (.inl rfl)) dts_nil)))) (.a (.a (.a (.a (.a (.a (.a (.s (.s (.s (.s .nil)))))))))))) ?_
    refine dss_cons (G1 := [.fz, .fz, .fz, .fz, .fz, .fz, .fz, .fz, .fz, .fz, .any]) (ds_if (G' := [.fz, .fz, .fz, .fz, .fz, .fz, .fz, .fz, .fz, .fz, .any]) (DW.dt (dw_or (dt_cmp op_gt vc_i2 (de_var 8 rfl rfl (.inr (.inl rfl))) (DR.dc (DE.dr de_int)) rfl) (dw_or1 (dt_cmp (op_neX (u64 hr)) vc_ne (DO.de (do_lc (own := [(("_law_row" : Str), 10)]) rfl sc__law_right.nd (blkOk_by (by rfl)) (di_val (de_var 9 rfl rfl (.inl rfl))) (fun _ _ _ _ _ => (dt_name 10 sc__law_right.nd rfl (.inl rfl))) (fun _ _ _ _ _ => (dtb_one (dt_cmp op_gt vc_i2 (de_b call_abs vb_abs rfl gd.b_abs boot_abs (dac_one (DR.dc (DE.dr (de_ix (de_var 10 rfl rfl (.inl rfl)) de_int))))) (DR.dc (DE.dr de_int)) rfl))) (fun _ _ _ _ _ => (de_var 10 rfl rfl (.inl rfl))) (by decide) rfl (by decide) (fa_cons (.inr rfl) fa_nil)) rfl) (DR.dc (DE.dr (DO.de (do_lst da_nil) rfl))) rfl)))) (dss_one (ds_ret de_bl rfl (.a (.a (.a (.a (.a (.a (.a (.a (.a (.a (.s .nil))))))))))) (.a (.a (.a (.a (.a (.a (.a (.a (.a (.a (.s .nil))))))))))))) dss_nil (.a (.a (.a (.a (.a (.a (.a (.a (.a (.a (.s .nil)))))))))))) ?_
    exact (dss_one (ds_ret (de_cmp (op_eqX (u64 hr)) vc_eq (de_call (FnG.mono G_tax (by decide)) hr hgd (takes_of rfl rfl rfl rfl) (kbn_ofD F_tax 2 [] [0, 1] fun _ _ _ _ _ _ us ws h1 h2 => match us, ws, h1, h2 with | [_, _], [], _, _ => rfl) rfl gd.f_tax F_tax.kp rfl (da_cons (de_tup (da_cons (de_var 7 rfl rfl (.inl rfl)) (da_cons (de_tupc rfl gd.b_tuple (DE.dr (DO.de (do_lc (own := [(("_law_row" : Str), 10)]) rfl sc__law_right.nd (blkOk_by (by rfl)) (di_val (de_var 9 rfl rfl (.inl rfl))) (fun _ _ _ _ _ => (dt_name 10 sc__law_right.nd rfl (.inl rfl))) (fun _ _ _ _ _ => dtb_nil) (fun _ _ _ _ _ => (de_op op_addX vop_add (de_var 10 rfl rfl (.inl rfl)) (de_tup (da_cons (de_var 8 rfl rfl (.inr (.inl rfl))) da_nil)))) (by decide) rfl (by decide) (fa_cons (.inr rfl) fa_nil)) rfl)) boot_tuple) da_nil))) (da_cons (de_var 1 rfl rfl (.inl rfl)) da_nil)) dk_nil rfl rfl) (DR.dc (DE.dr (de_var 3 rfl rfl (.inl rfl)))) rfl) rfl (.a (.a (.a (.a (.a (.a (.a (.a (.a (.a (.s .nil))))))))))) (.a (.a (.a (.a (.a (.a (.a (.a (.a (.a (.s .nil)))))))))))))
set_option maxHeartbeats 4000000 in
theorem ok_law (gd : Gd w K mg) (hsys : SysOk base) {fd : FuncData} (F : Fd K "law" st_law fd) : KBn K fd ["_law_script"] 1 [] (fun us ws => us) (fun vs zs => vs) ∧ FnG P w K mg base 8 (He.ga K "law") fd ["_law_script"] (spD K mg [.fz] (.fz) mf_law) := by
  obtain ⟨fd_bracket, F_bracket⟩ := gd.d_bracket
  obtain ⟨K_bracket, G_bracket⟩ := ok_bracket (P := P) (w := w) gd hsys F_bracket
  obtain ⟨fd__law_cell, F__law_cell⟩ := gd.d__law_cell
  obtain ⟨K__law_cell, G__law_cell⟩ := ok__law_cell (P := P) (w := w) gd hsys F__law_cell
  obtain ⟨fd__law_scale, F__law_scale⟩ := gd.d__law_scale
  obtain ⟨K__law_scale, G__law_scale⟩ := ok__law_scale (P := P) (w := w) gd hsys F__law_scale
  obtain ⟨fd__law_turned, F__law_turned⟩ := gd.d__law_turned
  obtain ⟨K__law_turned, G__law_turned⟩ := ok__law_turned (P := P) (w := w) gd hsys F__law_turned
  obtain ⟨fd__law_right, F__law_right⟩ := gd.d__law_right
  obtain ⟨K__law_right, G__law_right⟩ := ok__law_right (P := P) (w := w) gd hsys F__law_right
  refine ⟨kpos_ofD F (fun _ _ _ _ _ _ us h => match us, h with | [_], _ => rfl), fn_d F sc_law rfl rfl fun cdv A outer s H vs E hr hgd hv => ?_⟩
  match vs, hv with
  | [v0], _ =>
    exact (dss_cons (ds_setO (i := 1) sc_law.nd rfl (.inl rfl) (do_lst (da_cons de_int da_nil)) (.a (.s (.s (.s (.s (.s (.s (.s .nil))))))))) (dss_cons (ds_for (Gh := [.fz, .lst .fz, .any, .any, .any, .any, .any, .any]) (passes_of rfl) rfl (di_rng1 rfl gd.b_range (da_cons (de_op op_addX vop_add de_int (de_b (call_min2 rfl) vb_min rfl gd.b_min boot_min (dac_of (da_cons de_int (da_cons (de_b call_len vb_len rfl gd.b_len boot_len (dac_one (DR.dc (DE.dr (de_var 0 rfl rfl (.inl rfl)))))) da_nil))))) da_nil)) (dt_name 2 sc_law.nd rfl (.inl rfl)) (dss_cons (ds_par2 rfl sc_law.nd rfl rfl (by decide) rfl rfl (dao_O (DE.doz (de_callO (FnG.mono G__law_scale (by decide)) hr hgd (takes_of rfl rfl rfl rfl) K__law_scale rfl gd.f__law_scale F__law_scale.kp rfl (dg_val (de_var 0 rfl rfl (.inl rfl)) (dg_own 1 rfl rfl (.inl rfl) dg_nil)))) (dao_O (DE.doz (de_callO (FnG.mono G__law_cell (by decide)) hr hgd (takes_of rfl rfl rfl rfl) K__law_cell rfl gd.f__law_cell F__law_cell.kp rfl (dg_val (de_var 0 rfl rfl (.inl rfl)) (dg_own 1 rfl rfl (.inl rfl) dg_nil)))) dao_nil)) (.a (.a (.a (.s (.s (.s (.s (.s .nil)))))))) rfl) (dss_cons (ds_for (Gh := [.fz, .lst .fz, .fz, .fz, .fz, .any, .any, .any]) (passes_of rfl) rfl (di_val (de_ix (de_var 3 rfl rfl (.inl rfl)) de_int)) (dt_name 5 sc_law.nd rfl (.inl rfl)) (dss_cons (ds_for (Gh := [.fz, .lst .fz, .fz, .fz, .fz, .fz, .any, .any]) (passes_of rfl) rfl (di_val (de_tup (da_cons (de_ix (de_var 5 rfl rfl (.inl rfl)) de_int) (da_cons (de_op op_addX vop_add (de_ix (de_var 5 rfl rfl (.inl rfl)) de_int) de_int) (da_cons (de_op op_addX vop_add (de_ix (de_var 5 rfl rfl (.inl rfl)) de_int) (de_op op_mod vop_mod (de_var 4 rfl rfl (.inl rfl)) de_int)) (da_cons (de_var 4 rfl rfl (.inl rfl)) (da_cons (de_neg de_int) da_nil))))))) (dt_name 6 sc_law.nd rfl (.inl rfl)) (dss_cons (ds_set (i := 7) sc_law.nd rfl (.inl rfl) (de_ix (DO.de (do_lst (da_cons (de_op op_addX vop_add (de_ix (de_var 5 rfl rfl (.inl rfl)) de_int) (de_op op_mod vop_mod (de_var 4 rfl rfl (.inl rfl)) de_int)) (da_cons (de_op op_mod vop_mod (de_var 4 rfl rfl (.inl rfl)) de_int) (da_cons (de_op op_fdivW vop_fdiv (de_ix (de_var 5 rfl rfl (.inl rfl)) de_int) de_int) da_nil)))) rfl) (de_op op_mod vop_mod (de_op op_fdivW vop_fdiv (de_var 4 rfl rfl (.inl rfl)) de_int) de_int)) (.a (.a (.a (.a (.a (.a (.a (.s .nil))))))))) (dss_cons (ds_if (G' := [.fz, .lst .fz, .fz, .fz, .fz, .fz, .fz, .fz]) (dt_not (dt_val (de_call (FnG.mono G__law_right (by decide)) hr hgd (takes_of rfl rfl rfl rfl) (kbn_ofD F__law_right 3 [] [0, 1, 2] fun _ _ _ _ _ _ us ws h1 h2 => match us, ws, h1, h2 with | [_, _, _], [], _, _ => rfl) rfl gd.f__law_right F__law_right.kp rfl (da_cons (de_var 3 rfl rfl (.inl rfl)) (da_cons (de_var 6 rfl rfl (.inl rfl)) (da_cons (de_var 7 rfl rfl (.inl rfl)) da_nil))) dk_nil rfl rfl))) (dss_one (ds_ret de_bl rfl (.a (.a (.a (.a (.a (.a (.a (.a .nil)))))))) (.a (.a (.a (.a (.a (.a (.a (.a .nil)))))))))) dss_nil (.a (.a (.a (.a (.a (.a (.a (.a .nil))))))))) (dss_cons (ds_if (G' := [.fz, .lst .fz, .fz, .fz, .fz, .fz, .fz, .fz]) (dt_cmp (op_neX (u64 hr)) vc_ne (de_call (FnG.mono G_bracket (by decide)) hr hgd (takes_of rfl rfl rfl rfl) (kbn_ofD F_bracket 2 [] [0, 1] fun _ _ _ _ _ _ us ws h1 h2 => match us, ws, h1, h2 with | [_, _], [], _, _ => rfl) rfl gd.f_bracket F_bracket.kp rfl (da_cons (de_var 3 rfl rfl (.inl rfl)) (da_cons (de_var 6 rfl rfl (.inl rfl)) da_nil)) dk_nil rfl rfl) (DR.dc (DE.dr (de_call (FnG.mono G_bracket (by decide)) hr hgd (takes_of rfl rfl rfl rfl) (kbn_ofD F_bracket 2 [] [0, 1] fun _ _ _ _ _ _ us ws h1 h2 => match us, ws, h1, h2 with | [_, _], [], _, _ => rfl) rfl gd.f_bracket F_bracket.kp rfl (da_cons (de_call (FnG.mono G__law_turned (by decide)) hr hgd (takes_of rfl rfl rfl rfl) (kbn_ofD F__law_turned 1 [] [0] fun _ _ _ _ _ _ us ws h1 h2 => match us, ws, h1, h2 with | [_], [], _, _ => rfl) rfl gd.f__law_turned F__law_turned.kp rfl (da_cons (de_var 3 rfl rfl (.inl rfl)) da_nil) dk_nil rfl rfl) (da_cons (de_var 6 rfl rfl (.inl rfl)) da_nil)) dk_nil rfl rfl))) rfl) (dss_one (ds_ret de_bl rfl (.a (.a (.a (.a (.a (.a (.a (.a .nil)))))))) (.a (.a (.a (.a (.a (.a (.a (.a .nil)))))))))) dss_nil (.a (.a (.a (.a (.a (.a (.a (.a .nil))))))))) (DSs.wk dss_nil (.s (.s (.s (.s (.s (.s (.a (.a .nil)))))))))))) (.s (.s (.s (.s (.s (.s (.s (.s .nil)))))))) (.a (.a (.a (.a (.a (.a (.s (.s .nil))))))))) (DSs.wk dss_nil (.s (.s (.s (.s (.s (.a (.s (.s .nil)))))))))) (.s (.s (.s (.s (.s (.s (.s (.s .nil)))))))) (.a (.a (.a (.a (.a (.s (.s (.s .nil))))))))) (DSs.wk dss_nil (.s (.s (.a (.a (.a (.s (.s (.s .nil))))))))))) (.s (.s (.s (.s (.s (.s (.s (.s .nil)))))))) (.a (.a (.s (.s (.s (.s (.s (.s .nil))))))))) (dss_one (ds_ret de_bl rfl (.a (.a (.s (.s (.s (.s (.s (.s .nil)))))))) (.a (.a (.s (.s (.s (.s (.s (.s .nil))))))))))))
end
/-! ### the head -/
def dd_is_whole : He.DefD := ⟨("is_whole", none), "is_whole", "is_whole", defArgs st_is_whole, defBody st_is_whole, defScope st_is_whole, [], []⟩
def dd_is_from_to : He.DefD := ⟨("is_from_to", none), "is_from_to", "is_from_to", defArgs st_is_from_to, defBody st_is_from_to, defScope st_is_from_to, [], []⟩
def dd_is_tuple_of : He.DefD := ⟨("is_tuple_of", none), "is_tuple_of", "is_tuple_of", defArgs st_is_tuple_of, defBody st_is_tuple_of, defScope st_is_tuple_of, [], []⟩
def dd_is_round : He.DefD := ⟨("is_round", none), "is_round", "is_round", defArgs st_is_round, defBody st_is_round, defScope st_is_round, [], []⟩
def dd_is_rate : He.DefD := ⟨("is_rate", none), "is_rate", "is_rate", defArgs st_is_rate, defBody st_is_rate, defScope st_is_rate, [], []⟩
def dd_rounded : He.DefD := ⟨("rounded", none), "rounded", "rounded", defArgs st_rounded, defBody st_rounded, defScope st_rounded, [], []⟩
def dd_is_scale : He.DefD := ⟨("is_scale", none), "is_scale", "is_scale", defArgs st_is_scale, defBody st_is_scale, defScope st_is_scale, [], []⟩
def dd_need_scale : He.DefD := ⟨("need_scale", none), "need_scale", "need_scale", defArgs st_need_scale, defBody st_need_scale, defScope st_need_scale, [], []⟩
def dd_need_whole : He.DefD := ⟨("need_whole", none), "need_whole", "need_whole", defArgs st_need_whole, defBody st_need_whole, defScope st_need_whole, [], []⟩
def dd_common_number : He.DefD := ⟨("common_number", none), "common_number", "common_number", defArgs st_common_number, defBody st_common_number, defScope st_common_number, [], []⟩
def dd_own_together : He.DefD := ⟨("own_together", none), "own_together", "own_together", defArgs st_own_together, defBody st_own_together, defScope st_own_together, [], []⟩
def dd_scale_together : He.DefD := ⟨("scale_together", none), "scale_together", "scale_together", defArgs st_scale_together, defBody st_scale_together, defScope st_scale_together, [], []⟩
def dd_own_tax : He.DefD := ⟨("own_tax", none), "own_tax", "own_tax", defArgs st_own_tax, defBody st_own_tax, defScope st_own_tax, [], []⟩
def dd_tax : He.DefD := ⟨("tax", none), "tax", "tax", defArgs st_tax, defBody st_tax, defScope st_tax, [], []⟩
def dd_bracket : He.DefD := ⟨("bracket", none), "bracket", "bracket", defArgs st_bracket, defBody st_bracket, defScope st_bracket, [], []⟩
def dd__law_cell : He.DefD := ⟨("_law_cell", none), "_law_cell", "_law_cell", defArgs st__law_cell, defBody st__law_cell, defScope st__law_cell, [], []⟩
def dd__law_scale : He.DefD := ⟨("_law_scale", none), "_law_scale", "_law_scale", defArgs st__law_scale, defBody st__law_scale, defScope st__law_scale, [], []⟩
def dd__law_turned : He.DefD := ⟨("_law_turned", none), "_law_turned", "_law_turned", defArgs st__law_turned, defBody st__law_turned, defScope st__law_turned, [], []⟩
def dd__law_beyond : He.DefD := ⟨("_law_beyond", none), "_law_beyond", "_law_beyond", defArgs st__law_beyond, defBody st__law_beyond, defScope st__law_beyond, [], []⟩
def dd__law_with_row : He.DefD := ⟨("_law_with_row", none), "_law_with_row", "_law_with_row", defArgs st__law_with_row, defBody st__law_with_row, defScope st__law_with_row, [], []⟩
def dd__law_right : He.DefD := ⟨("_law_right", none), "_law_right", "_law_right", defArgs st__law_right, defBody st__law_right, defScope st__law_right, [], []⟩
def dd_law : He.DefD := ⟨("law", none), "law", "law", defArgs st_law, defBody st_law, defScope st_law, [], []⟩
def fnL : List He.DefD := [dd_is_whole, dd_is_from_to, dd_is_tuple_of, dd_is_round, dd_is_rate, dd_rounded, dd_is_scale, dd_need_scale, dd_need_whole, dd_common_number, dd_own_together, dd_scale_together, dd_own_tax, dd_tax, dd_bracket, dd__law_cell, dd__law_scale, dd__law_turned, dd__law_beyond, dd__law_with_row, dd__law_right, dd_law]
def faL : List He.Fa := [.free "abs", .free "all", .free "bool", .free "enumerate", .free "int", .free "isinstance", .free "len", .free "min", .free "range", .free "str", .free "tuple", .free "zip", .str "DOWN" "down", .int "MOST_BRACKETS" 8, .int "MOST_FROM" 1000000000000, .int "MOST_RATE" 1000, .str "NEAR" "near", .str "UP" "up", .glo "BadAmount", .glo "BadScale", .glo "is_whole", .glo "is_from_to", .glo "is_tuple_of", .glo "is_round", .glo "is_rate", .glo "rounded", .glo "is_scale", .glo "need_scale", .glo "need_whole", .glo "common_number", .glo "own_together", .glo "scale_together", .glo "own_tax", .glo "tax", .glo "bracket", .glo "_law_cell", .glo "_law_scale", .glo "_law_turned", .glo "_law_beyond", .glo "_law_with_row", .glo "_law_right", .glo "law"]
def tbL : List He.Tab := []
theorem gd_of {K : PySem.W.Frag} {h : Heap} {mg : Str → Option Value} {w : World} (X : K.In h) (G : h.Ns mainGlobals mg) (c : He.SaysX faL fnL tbL mkL (xAll xL) w h K) : Gd w K mg where
  x := c.more
  b_abs := He.free_ok X G (c.t.d.fact 0 (f := .free "abs") rfl)
  b_all := He.free_ok X G (c.t.d.fact 1 (f := .free "all") rfl)
  b_bool := He.free_ok X G (c.t.d.fact 2 (f := .free "bool") rfl)
  b_enumerate := He.free_ok X G (c.t.d.fact 3 (f := .free "enumerate") rfl)
  b_int := He.free_ok X G (c.t.d.fact 4 (f := .free "int") rfl)
  b_isinstance := He.free_ok X G (c.t.d.fact 5 (f := .free "isinstance") rfl)
  b_len := He.free_ok X G (c.t.d.fact 6 (f := .free "len") rfl)
  b_min := He.free_ok X G (c.t.d.fact 7 (f := .free "min") rfl)
  b_range := He.free_ok X G (c.t.d.fact 8 (f := .free "range") rfl)
  b_str := He.free_ok X G (c.t.d.fact 9 (f := .free "str") rfl)
  b_tuple := He.free_ok X G (c.t.d.fact 10 (f := .free "tuple") rfl)
  b_zip := He.free_ok X G (c.t.d.fact 11 (f := .free "zip") rfl)
  c_DOWN := He.str_ok X G (c.t.d.fact 12 (f := .str "DOWN" "down") rfl)
  c_MOST_BRACKETS := He.int_ok X G (c.t.d.fact 13 (f := .int "MOST_BRACKETS" 8) rfl)
  c_MOST_FROM := He.int_ok X G (c.t.d.fact 14 (f := .int "MOST_FROM" 1000000000000) rfl)
  c_MOST_RATE := He.int_ok X G (c.t.d.fact 15 (f := .int "MOST_RATE" 1000) rfl)
  c_NEAR := He.str_ok X G (c.t.d.fact 16 (f := .str "NEAR" "near") rfl)
  c_UP := He.str_ok X G (c.t.d.fact 17 (f := .str "UP" "up") rfl)
  g_BadAmount := He.glo_ok X G (c.t.d.fact 18 (f := .glo "BadAmount") rfl)
  g_BadScale := He.glo_ok X G (c.t.d.fact 19 (f := .glo "BadScale") rfl)
  f_is_whole := He.glo_ok X G (c.t.d.fact 20 (f := .glo "is_whole") rfl)
  d_is_whole := c.t.d.def_ 0 (d := dd_is_whole) rfl
  f_is_from_to := He.glo_ok X G (c.t.d.fact 21 (f := .glo "is_from_to") rfl)
  d_is_from_to := c.t.d.def_ 1 (d := dd_is_from_to) rfl
  f_is_tuple_of := He.glo_ok X G (c.t.d.fact 22 (f := .glo "is_tuple_of") rfl)
  d_is_tuple_of := c.t.d.def_ 2 (d := dd_is_tuple_of) rfl
  f_is_round := He.glo_ok X G (c.t.d.fact 23 (f := .glo "is_round") rfl)
  d_is_round := c.t.d.def_ 3 (d := dd_is_round) rfl
  f_is_rate := He.glo_ok X G (c.t.d.fact 24 (f := .glo "is_rate") rfl)
  d_is_rate := c.t.d.def_ 4 (d := dd_is_rate) rfl
  f_rounded := He.glo_ok X G (c.t.d.fact 25 (f := .glo "rounded") rfl)
  d_rounded := c.t.d.def_ 5 (d := dd_rounded) rfl
  f_is_scale := He.glo_ok X G (c.t.d.fact 26 (f := .glo "is_scale") rfl)
  d_is_scale := c.t.d.def_ 6 (d := dd_is_scale) rfl
  f_need_scale := He.glo_ok X G (c.t.d.fact 27 (f := .glo "need_scale") rfl)
  d_need_scale := c.t.d.def_ 7 (d := dd_need_scale) rfl
  f_need_whole := He.glo_ok X G (c.t.d.fact 28 (f := .glo "need_whole") rfl)
  d_need_whole := c.t.d.def_ 8 (d := dd_need_whole) rfl
  f_common_number := He.glo_ok X G (c.t.d.fact 29 (f := .glo "common_number") rfl)
  d_common_number := c.t.d.def_ 9 (d := dd_common_number) rfl
  f_own_together := He.glo_ok X G (c.t.d.fact 30 (f := .glo "own_together") rfl)
  d_own_together := c.t.d.def_ 10 (d := dd_own_together) rfl
  f_scale_together := He.glo_ok X G (c.t.d.fact 31 (f := .glo "scale_together") rfl)
  d_scale_together := c.t.d.def_ 11 (d := dd_scale_together) rfl
  f_own_tax := He.glo_ok X G (c.t.d.fact 32 (f := .glo "own_tax") rfl)
  d_own_tax := c.t.d.def_ 12 (d := dd_own_tax) rfl
  f_tax := He.glo_ok X G (c.t.d.fact 33 (f := .glo "tax") rfl)
  d_tax := c.t.d.def_ 13 (d := dd_tax) rfl
  f_bracket := He.glo_ok X G (c.t.d.fact 34 (f := .glo "bracket") rfl)
  d_bracket := c.t.d.def_ 14 (d := dd_bracket) rfl
  f__law_cell := He.glo_ok X G (c.t.d.fact 35 (f := .glo "_law_cell") rfl)
  d__law_cell := c.t.d.def_ 15 (d := dd__law_cell) rfl
  f__law_scale := He.glo_ok X G (c.t.d.fact 36 (f := .glo "_law_scale") rfl)
  d__law_scale := c.t.d.def_ 16 (d := dd__law_scale) rfl
  f__law_turned := He.glo_ok X G (c.t.d.fact 37 (f := .glo "_law_turned") rfl)
  d__law_turned := c.t.d.def_ 17 (d := dd__law_turned) rfl
  f__law_beyond := He.glo_ok X G (c.t.d.fact 38 (f := .glo "_law_beyond") rfl)
  d__law_beyond := c.t.d.def_ 18 (d := dd__law_beyond) rfl
  f__law_with_row := He.glo_ok X G (c.t.d.fact 39 (f := .glo "_law_with_row") rfl)
  d__law_with_row := c.t.d.def_ 19 (d := dd__law_with_row) rfl
  f__law_right := He.glo_ok X G (c.t.d.fact 40 (f := .glo "_law_right") rfl)
  d__law_right := c.t.d.def_ 20 (d := dd__law_right) rfl
  f_law := He.glo_ok X G (c.t.d.fact 41 (f := .glo "law") rfl)
  d_law := c.t.d.def_ 21 (d := dd_law) rfl
def loose : List PySem.Str := ("LevyError" : PySem.Str) :: ("BadAmount" : PySem.Str) :: ("BadScale" : PySem.Str) :: ("MOST_RATE" : PySem.Str) :: ("DOWN" : PySem.Str) :: ("UP" : PySem.Str) :: ("NEAR" : PySem.Str) :: ("is_whole" : PySem.Str) :: ("is_from_to" : PySem.Str) :: ("is_tuple_of" : PySem.Str) :: ("is_round" : PySem.Str) :: ("is_rate" : PySem.Str) :: ("rounded" : PySem.Str) :: ("MOST_BRACKETS" : PySem.Str) :: ("MOST_FROM" : PySem.Str) :: ("is_scale" : PySem.Str) :: ("need_scale" : PySem.Str) :: ("need_whole" : PySem.Str) :: ("common_number" : PySem.Str) :: ("own_together" : PySem.Str) :: ("scale_together" : PySem.Str) :: ("own_tax" : PySem.Str) :: ("tax" : PySem.Str) :: ("bracket" : PySem.Str) :: ("_law_cell" : PySem.Str) :: ("_law_scale" : PySem.Str) :: ("_law_turned" : PySem.Str) :: ("_law_beyond" : PySem.Str) :: ("_law_with_row" : PySem.Str) :: ("_law_right" : PySem.Str) :: []
abbrev R : PySem.W.OpenRow := PySem.W.OpenLaw.row PySem.Challenge.rw_leviesbook_k13_whole_taxes_turned_and_pa
abbrev hk : PySem.W.Hook := hookM 4 faL fnL tbL (xAll xL) mkL
def ob (s : PySem.W.SharedT) : He.AlX × Bool := obsM 4 faL fnL tbL (xAll xL) (HandSHeadRun.getT s) mkL
theorem ob_eq (s : PySem.W.SharedT) : ob s = hk.obs s.abs := obsM_eq (HandSHeadRun.getT_eq s)
theorem run (w : World) : HandSHeadRun.RunEq R (PySem.W.view R.prog [34]) hk ob 4000 loose w := by
  intro os
  kernel_rfl
end Gk13
namespace Gk13
open PySem PySem.W PySem.Calls PyProof.Rows
set_option maxHeartbeats 4000000 in
theorem law_from (plain : ∀ ns : List Int, ns.length ≤ 63 → (∀ z ∈ ns, Builtin.Int.intBits z ≤ 1048576) → ∃ ds, Gk13.mf_law [.scr ns] = .ok (.bl true) ds) : PySem.Challenge.rw_leviesbook_k13_whole_taxes_turned_and_pa.Holds := by
  w_on; o_law
  refine HandSHeadRun.head_any (r := OpenLaw.row PySem.Challenge.rw_leviesbook_k13_whole_taxes_turned_and_pa) (q := view (OpenLaw.row PySem.Challenge.rw_leviesbook_k13_whole_taxes_turned_and_pa).prog [34]) (H := Gk13.hk) (ob := Gk13.ob) (M := 4000) (loose := Gk13.loose) (d := HandSHeadRun.topDef (OpenLaw.row PySem.Challenge.rw_leviesbook_k13_whole_taxes_turned_and_pa).prog 34) (kwd := []) Gk13.ob_eq
    (by kernel_rfl) (fun s => by kernel_rfl) Gk13.run (by kernel_rfl) (by kernel_rfl) (by kernel_rfl) (by rfl) (by first | assumption | decide +kernel) (by decide +kernel) ⟨rfl, rfl, rfl, rfl, rfl, by decide +kernel⟩ ?hw ?hc
  case hw => w_witness2
  case hc =>
    refine DM.law_holds (l := PySem.Challenge.rw_leviesbook_k13_whole_taxes_turned_and_pa) (n := 63) (k := 8) (x := "_law_script") rfl (by decide) (by kernel_rfl) ⟨rfl, by decide, by decide⟩ Gk13.mf_law ?F plain
    intro w mg fa h Y G hmg0
    obtain ⟨K, KX, c, hsys⟩ := Y
    have hmg : mg ("law" : PySem.Str) = some (.ref fa) := by
      have e : (HandSHeadRun.topDef (OpenLaw.row PySem.Challenge.rw_leviesbook_k13_whole_taxes_turned_and_pa).prog 34).name = ("law" : PySem.Str) := by kernel_rfl
      rw [← e]
      exact hmg0
    have gd := Gk13.gd_of KX G c
    have e := hmg.symm.trans gd.f_law
    cases e
    obtain ⟨fd, F⟩ := gd.d_law
    refine ⟨K, fd, Gk13.mkL.map (He.cT K), Gk13.nmL, KX, hsys, fun p hp => ?_, fun s u => L2.FunD.bindsA (ps := ["_law_script"]) F (fun _ _ _ _ _ _ us hl => match us, hl with | [_], _ => rfl) s [u] rfl, fun base hK hN hS hT => ?_⟩
    · obtain ⟨q, hq, e⟩ := List.mem_map.mp hp
      subst e
      exact ⟨c.empty q hq, c.out q hq, PySem.W.codeHd_of_K KX (c.hd q hq)⟩
    · letI : DM.LamT := ⟨((Gk13.mkL.map (He.cT K)).map (·.2)).zip Gk13.nmL, [], fun _ => False, fun _ => none⟩
      exact (Gk13.ok_law (P := (PySem.Challenge.rw_leviesbook_k13_whole_taxes_turned_and_pa).prog) (w := w) gd hS F).2
end Gk13
/-! written by gen.py: plain functions of the law, and that the mirrors do what they tell -/
namespace Gk13
open PySem PySem.Spec PyProof.Rows L2 DM
instance {n : Nat} : Okp (cFn n) := inferInstanceAs (Okp (cTop _ _))
set_option maxHeartbeats 4000000 in
theorem lk_is_whole (thing1 : D) : LkV (mf_is_whole [thing1]) (Lv.amounts_is_whole thing1) :=
  lkv_of (n := 1) (Γ0 := [.is thing1]) (j_last (j_sRet (j_and (j_eta (j_b (j_cons (j_var rfl (j_cons (j_K (j_nil (j_lift fun z2 => (j_val (LeG.refl _)))))))))) (j_eta (j_not (j_b (j_cons (j_var rfl (j_cons (j_K (j_nil (j_lift fun z3 => (j_lift fun b4 => (j_val (LeG.refl _)))))))))))) fun b5 => (j_ret' (rt_top rfl (le_any rfl)))))) (agr_is agr_nil) rfl rfl (ble rfl)
set_option maxHeartbeats 4000000 in
theorem lk_is_from_to (thing1 least2 most3 : D) : LkV (mf_is_from_to [thing1, least2, most3]) (Lv.amounts_is_from_to thing1 least2 most3) :=
  lkv_of (n := 3) (Γ0 := [.is thing1, .is least2, .is most3]) (j_last (j_sRet (j_and (j_eta (j_eCall (j_cons (j_var rfl (j_nil (j_nil (j_call (lk_is_whole thing1) (xok_any rfl) fun r4 => (j_val (LeG.refl _))))))))) (j_eta (j_chain2 (j_var rfl (j_var rfl (j_ichn2 (j_eta (j_bb (j_var rfl (j_lift fun b5 => (j_val (LeG.refl _)))))) fun b6 => (j_val (LeG.refl _))))))) fun b7 => (j_ret' (rt_top rfl (le_any rfl)))))) (agr_is (agr_is (agr_is agr_nil))) rfl rfl (ble rfl)
set_option maxHeartbeats 4000000 in
theorem lk_is_tuple_of (thing1 least2 most3 : D) : LkV (mf_is_tuple_of [thing1, least2, most3]) (Lv.amounts_is_tuple_of thing1 least2 most3) :=
  lkv_of (n := 3) (Γ0 := [.is thing1, .is least2, .is most3]) (j_last (j_sRet (j_and (j_eta (j_b (j_cons (j_var rfl (j_cons (j_K (j_nil (j_lift fun z4 => (j_val (LeG.refl _)))))))))) (j_eta (j_chain2 (j_var rfl (j_b (j_cons (j_var rfl (j_nil (j_lift fun z5 => (j_ichn2 (j_eta (j_bb (j_var rfl (j_lift fun b6 => (j_val (LeG.refl _)))))) fun b7 => (j_val (LeG.refl _))))))))))) fun b8 => (j_ret' (rt_top rfl (le_any rfl)))))) (agr_is (agr_is (agr_is agr_nil))) rfl rfl (ble rfl)
set_option maxHeartbeats 4000000 in
theorem lk_is_round (thing1 : D) : LkV (mf_is_round [thing1]) (Lv.amounts_is_round thing1) :=
  lkv_of (n := 1) (Γ0 := [.is thing1]) (j_last (j_sRet (j_and (j_eta (j_b (j_cons (j_var rfl (j_cons (j_K (j_nil (j_lift fun z2 => (j_val (LeG.refl _)))))))))) (j_eta (j_cmp (j_var rfl (j_eTup (j_cons (j_K (j_cons (j_K (j_cons (j_K (j_nil (j_tup (j_lift fun z3 => (j_val (LeG.refl _))) (ble rfl))))))))))))) fun b4 => (j_ret' (rt_top rfl (le_any rfl)))))) (agr_is agr_nil) rfl rfl (ble rfl)
set_option maxHeartbeats 4000000 in
theorem lk_is_rate (top_1 bottom2 : D) : LkV (mf_is_rate [top_1, bottom2]) (Lv.amounts_is_rate top_1 bottom2) :=
  lkv_of (n := 2) (Γ0 := [.is top_1, .is bottom2]) (j_last (j_sRet (j_and (j_eta (j_eCall (j_cons (j_var rfl (j_cons (j_op (j_K (j_K (j_lift fun z3 => (j_cons (j_K (j_nil (j_nil (j_call (lk_is_from_to top_1 z3 (D.int 1000)) (xok_any rfl) fun r4 => (j_val (LeG.refl _)))))))))))))))) (j_eta (j_eCall (j_cons (j_var rfl (j_cons (j_K (j_cons (j_K (j_nil (j_nil (j_call (lk_is_from_to bottom2 (D.int 1) (D.int 1000)) (xok_any rfl) fun r5 => (j_val (LeG.refl _))))))))))))) fun b6 => (j_ret' (rt_top rfl (le_any rfl)))))) (agr_is (agr_is agr_nil)) rfl rfl (ble rfl)
set_option maxHeartbeats 4000000 in
theorem lk_rounded (top_1 bottom2 way3 : D) : LkV (mf_rounded [top_1, bottom2, way3]) (Lv.amounts_rounded top_1 bottom2 way3) :=
  lkv_of (n := 3) (Γ0 := [.is top_1, .is bottom2, .is way3]) (j_if (j_tcp (j_var rfl (j_K (j_lift fun z4 => (j_ite (j_sRet (j_op (j_var rfl (j_var rfl (j_lift fun z5 => (j_ret' (rt_top rfl (le_any rfl)))))))) (j_snil (j_last (j_sRet (j_eif2 (j_eta (j_tcp (j_var rfl (j_K (j_lift fun z6 => (j_val (LeG.refl _))))))) (j_eta (j_op (j_K (j_op (j_op (j_K (j_var rfl (j_lift fun z7 => (j_var rfl (j_lift fun z8 => (j_lift fun z9 => (j_val (LeG.refl _))))))))))))) (j_eta (j_op (j_op (j_op (j_K (j_var rfl (j_lift fun z10 => (j_var rfl (j_lift fun z11 => (j_op (j_K (j_var rfl (j_lift fun z12 => (j_lift fun z13 => (j_val (LeG.refl _)))))))))))))))) fun v14 => (j_ret' (rt_top rfl (le_any rfl))))))))))))) (agr_is (agr_is (agr_is agr_nil))) rfl rfl (ble rfl)
set_option maxHeartbeats 4000000 in
theorem lk_is_scale (thing1 : D) : LkV (mf_is_scale [thing1]) (Lv.scales_is_scale thing1) :=
  lkv_of (n := 5) (Γ0 := [.is thing1, .any, .any, .any, .any]) (j_if (j_tor (j_eta (j_tnot (j_tval (j_eCall (j_cons (j_var rfl (j_cons (j_K (j_cons (j_K (j_nil (j_nil (j_call (lk_is_tuple_of thing1 (D.int 2) (D.int 2)) (xok_any rfl) fun r2 => (j_lift fun b3 => (j_val (LeG.refl _)))))))))))))))) (j_eta (j_tor (j_eta (j_tnot (j_tval (j_eCall (j_cons (j_ix (j_var rfl (j_K (j_lift fun z4 => (j_nil (j_nil (j_call (lk_is_round z4) (xok_any rfl) fun r5 => (j_lift fun b6 => (j_val (LeG.refl _))))))))))))))) (j_eta (j_tnot (j_tval (j_eCall (j_cons (j_ix (j_var rfl (j_K (j_lift fun z7 => (j_cons (j_K (j_cons (j_K (j_nil (j_nil (j_call (lk_is_tuple_of z7 (D.int 1) (D.int 8)) (xok_any rfl) fun r8 => (j_lift fun b9 => (j_val (LeG.refl _))))))))))))))))))) fun b10 => (j_val (LeG.refl _)))) fun b11 => (j_ite (j_sRet (j_K (j_ret' (rt_top rfl (le_any rfl))))) (j_snil (j_for (j_iVal (j_ix (j_var rfl (j_K (j_lift fun z12 => (j_lift fun xs13 => (j_forR (Γh := (fun (_ : Unit) => [.is thing1, .any, .any, .any, .any])) (b := ()) (fun d15 b14 => (j_gNmL [.is thing1, .is d15, .any, .any, .any] rfl rfl (j_if (j_tor (j_eta (j_tnot (j_tval (j_eCall (j_cons (j_var rfl (j_cons (j_K (j_cons (j_K (j_nil (j_nil (j_call (lk_is_tuple_of d15 (D.int 3) (D.int 3)) (xok_any rfl) fun r16 => (j_lift fun b17 => (j_val (LeG.refl _)))))))))))))))) (j_eta (j_tor (j_eta (j_tnot (j_tval (j_eCall (j_cons (j_ix (j_var rfl (j_K (j_lift fun z18 => (j_cons (j_K (j_cons (j_K (j_nil (j_nil (j_call (lk_is_from_to z18 (D.int 0) (D.int 1000000000000)) (xok_any rfl) fun r19 => (j_lift fun b20 => (j_val (LeG.refl _))))))))))))))))))) (j_eta (j_tnot (j_tval (j_eCall (j_cons (j_ix (j_var rfl (j_K (j_lift fun z21 => (j_cons (j_ix (j_var rfl (j_K (j_lift fun z22 => (j_nil (j_nil (j_call (lk_is_rate z21 z22) (xok_any rfl) fun r23 => (j_lift fun b24 => (j_val (LeG.refl _)))))))))))))))))))) fun b25 => (j_val (LeG.refl _)))) fun b26 => (j_ite (j_sRet (j_K (j_ret' (rt_loopR (rt_top rfl (le_any rfl)))))) (j_snil (j_end (nx_loopR (.cons .rfl (.cons .any (.cons .any (.cons .any (.cons .any .nil))))))))))))) (.cons .rfl (.cons .any (.cons .any (.cons .any (.cons .any .nil))))) fun b27 => (j_set (j_lc (j_iVal (j_ix (j_var rfl (j_K (j_lift fun z28 => (j_lift fun xs29 => (j_lcP (fun d30 => (j_lcB (j_gNmL [.is thing1, .is d30, .any, .any, .any] rfl rfl (j_yes (j_ifT (j_ix (j_var rfl (j_K (j_lift fun z31 => (j_val (.cons .rfl (.cons .any (.cons .any (.cons .any (.cons .any .nil))))))))))))))) fun xs32 => (j_setIL [.is thing1, .any, .is (D.lst xs32), .any, .any] rfl rfl (j_last (j_sRet (j_and (j_eta (j_cmp (j_ix (j_var rfl (j_K (j_lift fun z33 => (j_K (j_lift fun z34 => (j_val (LeG.refl _)))))))))) (j_eta (j_b (j_cons (j_lc (j_iZipB (j_cons (j_var rfl (j_cons (j_sl (j_var rfl (j_oSome (j_K (j_lift fun i35 => (j_oNone (j_lift fun z36 => (j_nil (j_lift fun xs37 => (j_lcP (fun d38 => (j_lcB (j_un2 fun one39 other40 => (j_gCons (j_gNmL [.is thing1, .any, .is (D.lst xs32), .is one39, .any] rfl rfl (j_gCons (j_gNmL [.is thing1, .any, .is (D.lst xs32), .is one39, .is other40] rfl rfl (j_gNil (j_yes (j_ifT (j_cmp (j_var rfl (j_var rfl (j_lift fun z41 => (j_val (.cons .rfl (.cons .any (.cons .rfl (.cons .any (.cons .any .nil)))))))))))))))))))) fun xs42 => (j_nil (j_lift fun z43 => (j_val (LeG.refl _)))))))))))))))))))))) fun b44 => (j_ret' (rt_top rfl (le_any rfl)))))))))))))))))))))))))))) (agr_is (agr_any (agr_any (agr_any (agr_any agr_nil))))) rfl rfl (ble rfl)
set_option maxHeartbeats 4000000 in
theorem lk_need_scale (scale1 : D) : LkV (mf_need_scale [scale1]) (Lv.scales_need_scale scale1) :=
  lkv_of (n := 1) (Γ0 := [.is scale1]) (j_if (j_tnot (j_tval (j_eCall (j_cons (j_var rfl (j_nil (j_nil (j_call (lk_is_scale scale1) (xok_any rfl) fun r2 => (j_lift fun b3 => (j_ite (j_raise (xok_any rfl)) (j_snil (j_end (nx_top rfl (le_any rfl))))))))))))))) (agr_is agr_nil) rfl rfl (ble rfl)
set_option maxHeartbeats 4000000 in
theorem lk_need_whole (amount1 : D) : LkV (mf_need_whole [amount1]) (Lv.scales_need_whole amount1) :=
  lkv_of (n := 1) (Γ0 := [.is amount1]) (j_if (j_tnot (j_tval (j_eCall (j_cons (j_var rfl (j_nil (j_nil (j_call (lk_is_whole amount1) (xok_any rfl) fun r2 => (j_lift fun b3 => (j_ite (j_raise (xok_any rfl)) (j_snil (j_end (nx_top rfl (le_any rfl))))))))))))))) (agr_is agr_nil) rfl rfl (ble rfl)
set_option maxHeartbeats 4000000 in
theorem lk_common_number (one1 other2 : D) : LkV (mf_common_number [one1, other2]) (Lv.scales_common_number one1 other2) :=
  lkv_of (n := 2) (Γ0 := [.is one1, .is other2]) (j_whP (Γh := (fun (b3 : (D × D)) => [.is b3.1, .is b3.2])) (b := (one1, other2)) (fun b3 => (j_eta (j_tcp (j_var rfl (j_K (j_lift fun z4 => (j_val (LeG.refl _)))))))) (fun b3 => (j_par (j_cons (j_var rfl (j_cons (j_op (j_var rfl (j_var rfl (j_lift fun z5 => (j_nil (j_setAL [.is b3.2, .is b3.2] rfl rfl (j_setAL [.is b3.2, .is z5] rfl rfl (j_setA0 (j_end (nx_loop (.cons .rfl (.cons .rfl .nil))))))))))))))))) (.cons .rfl (.cons .rfl .nil)) fun b6 => (j_last (j_sRet (j_var rfl (j_ret' (rt_top rfl (le_any rfl))))))) (agr_is (agr_is agr_nil)) rfl rfl (ble rfl)
set_option maxHeartbeats 4000000 in
theorem lk_own_together (scale1 : D) : LkV (mf_own_together [scale1]) (Lv.scales_own_together scale1) :=
  lkv_of (n := 7) (Γ0 := [.is scale1, .any, .any, .any, .any, .any, .any]) (j_asg (j_var rfl (j_un2 fun way2 rows_3 => (j_gCons (j_gNmL [.is scale1, .is way2, .any, .any, .any, .any, .any] rfl rfl (j_gCons (j_gNmL [.is scale1, .is way2, .is rows_3, .any, .any, .any, .any] rfl rfl (j_gNil (j_set (j_K (j_setIL [.is scale1, .is way2, .is rows_3, .is (D.int 1), .any, .any, .any] rfl rfl (j_for (j_iVal (j_var rfl (j_lift fun xs4 => (j_forP (Γh := (fun (b5 : D) => [.is scale1, .is way2, .is rows_3, .is b5, .any, .any, .any])) (b := (D.int 1)) (fun d6 b5 => (j_un3 fun begin7 top_8 bottom9 => (j_gCons (j_gNmL [.is scale1, .is way2, .is rows_3, .is b5, .is begin7, .any, .any] rfl rfl (j_gCons (j_gNmL [.is scale1, .is way2, .is rows_3, .is b5, .is begin7, .is top_8, .any] rfl rfl (j_gCons (j_gNmL [.is scale1, .is way2, .is rows_3, .is b5, .is begin7, .is top_8, .is bottom9] rfl rfl (j_gNil (j_set (j_op (j_op (j_var rfl (j_var rfl (j_lift fun z10 => (j_eCall (j_cons (j_var rfl (j_cons (j_var rfl (j_nil (j_nil (j_call (lk_common_number b5 bottom9) (xok_any rfl) fun r11 => (j_lift fun whole12 => (j_setIL [.is scale1, .is way2, .is rows_3, .is whole12, .is begin7, .is top_8, .is bottom9] rfl rfl (j_end (nx_loop (.cons .rfl (.cons .rfl (.cons .rfl (.cons .rfl (.cons .any (.cons .any (.cons .any .nil)))))))))))))))))))))))))))))))))) (.cons .rfl (.cons .rfl (.cons .rfl (.cons .rfl (.cons .any (.cons .any (.cons .any .nil))))))) fun b13 => (j_last (j_sRet (j_eTup (j_cons (j_var rfl (j_cons (j_var rfl (j_cons (j_un (j_lc (j_iVal (j_var rfl (j_lift fun xs14 => (j_lcP (fun d15 => (j_lcB (j_un3 fun begin16 top_17 bottom18 => (j_gCons (j_gNmL [.is scale1, .is way2, .is rows_3, .is b13, .is begin16, .any, .any] rfl rfl (j_gCons (j_gNmL [.is scale1, .is way2, .is rows_3, .is b13, .is begin16, .is top_17, .any] rfl rfl (j_gCons (j_gNmL [.is scale1, .is way2, .is rows_3, .is b13, .is begin16, .is top_17, .is bottom18] rfl rfl (j_gNil (j_yes (j_ifT (j_eTup (j_cons (j_var rfl (j_cons (j_op (j_var rfl (j_op (j_var rfl (j_var rfl (j_lift fun z19 => (j_lift fun z20 => (j_nil (j_tup (j_val (.cons .rfl (.cons .rfl (.cons .rfl (.cons .rfl (.cons .any (.cons .any (.cons .any .nil)))))))) (ble rfl)))))))))))))))))))))))))) fun xs21 => (j_lift fun z22 => (j_nil (j_tup (j_ret' (rt_top rfl (le_any rfl))) (ble rfl)))))))))))))))))))))))))))))))))) (agr_is (agr_any (agr_any (agr_any (agr_any (agr_any (agr_any agr_nil))))))) rfl rfl (ble rfl)
set_option maxHeartbeats 4000000 in
theorem lk_scale_together (scale1 : D) : LkV (mf_scale_together [scale1]) (Lv.scales_scale_together scale1) :=
  lkv_of (n := 1) (Γ0 := [.is scale1]) (j_exp (j_eCall (j_cons (j_var rfl (j_nil (j_nil (j_call (lk_need_scale scale1) (xok_any rfl) fun r2 => (j_last (j_sRet (j_eCall (j_cons (j_var rfl (j_nil (j_nil (j_call (lk_own_together scale1) (xok_any rfl) fun r3 => (j_ret' (rt_top rfl (le_any rfl)))))))))))))))))) (agr_is agr_nil) rfl rfl (ble rfl)
set_option maxHeartbeats 4000000 in
theorem lk_own_tax (scale1 amount2 : D) : LkV (mf_own_tax [scale1, amount2]) (Lv.scales_own_tax scale1 amount2) :=
  lkv_of (n := 11) (Γ0 := [.is scale1, .is amount2, .any, .any, .any, .any, .any, .any, .any, .any, .any]) (j_if (j_tcp (j_var rfl (j_K (j_lift fun z3 => (j_ite (j_sRet (j_K (j_ret' (rt_top rfl (le_any rfl))))) (j_snil (j_asg (j_eCall (j_cons (j_var rfl (j_nil (j_nil (j_call (lk_own_together scale1) (xok_any rfl) fun r4 => (j_un3 fun way5 bottom6 rows_7 => (j_gCons (j_gNmL [.is scale1, .is amount2, .is way5, .any, .any, .any, .any, .any, .any, .any, .any] rfl rfl (j_gCons (j_gNmL [.is scale1, .is amount2, .is way5, .is bottom6, .any, .any, .any, .any, .any, .any, .any] rfl rfl (j_gCons (j_gNmL [.is scale1, .is amount2, .is way5, .is bottom6, .is rows_7, .any, .any, .any, .any, .any, .any] rfl rfl (j_gNil (j_set (j_op (j_lc (j_iVal (j_sl (j_var rfl (j_oSome (j_K (j_lift fun i8 => (j_oNone (j_lift fun z9 => (j_lift fun xs10 => (j_lcP (fun d11 => (j_lcB (j_gNmL [.is scale1, .is amount2, .is way5, .is bottom6, .is rows_7, .any, .any, .any, .any, .any, .is d11] rfl rfl (j_yes (j_ifT (j_ix (j_var rfl (j_K (j_lift fun z12 => (j_val (.cons .rfl (.cons .rfl (.cons .rfl (.cons .rfl (.cons .rfl (.cons .any (.cons .any (.cons .any (.cons .any (.cons .any (.cons .any .nil))))))))))))))))))))) fun xs13 => (j_eLst (j_cons (j_var rfl (j_nil (j_lst (j_lift fun ends14 => (j_setIL [.is scale1, .is amount2, .is way5, .is bottom6, .is rows_7, .is ends14, .any, .any, .any, .any, .any] rfl rfl (j_set (j_K (j_setIL [.is scale1, .is amount2, .is way5, .is bottom6, .is rows_7, .is ends14, .is (D.int 0), .any, .any, .any, .any] rfl rfl (j_for (j_iZipB (j_cons (j_var rfl (j_cons (j_var rfl (j_nil (j_lift fun xs15 => (j_forP (Γh := (fun (b16 : D) => [.is scale1, .is amount2, .is way5, .is bottom6, .is rows_7, .is ends14, .is b16, .any, .any, .any, .any])) (b := (D.int 0)) (fun d17 b16 => (j_un2 fun x18 end_19 => (j_gCons (j_un2 fun begin20 top_21 => (j_gCons (j_gNmL [.is scale1, .is amount2, .is way5, .is bottom6, .is rows_7, .is ends14, .is b16, .is begin20, .any, .any, .any] rfl rfl (j_gCons (j_gNmL [.is scale1, .is amount2, .is way5, .is bottom6, .is rows_7, .is ends14, .is b16, .is begin20, .is top_21, .any, .any] rfl rfl (j_gNil (j_gCons (j_gNmL [.is scale1, .is amount2, .is way5, .is bottom6, .is rows_7, .is ends14, .is b16, .is begin20, .is top_21, .is end_19, .any] rfl rfl (j_gNil (j_if (j_tcp (j_var rfl (j_var rfl (j_lift fun z22 => (j_ite (j_ss (j_aug (j_var rfl (j_op (j_op (j_b (j_cons (j_var rfl (j_cons (j_var rfl (j_nil (j_lift fun z23 => (j_var rfl (j_lift fun z24 => (j_var rfl (j_lift fun z25 => (j_lift fun total26 => (j_setIL [.is scale1, .is amount2, .is way5, .is bottom6, .is rows_7, .is ends14, .is total26, .is begin20, .is top_21, .is end_19, .any] rfl rfl (j_snil (j_end (nx_loop (.cons .rfl (.cons .rfl (.cons .rfl (.cons .rfl (.cons .rfl (.cons .rfl (.cons .rfl (.cons .any (.cons .any (.cons .any (.cons .any .nil)))))))))))))))))))))))))))))))) (j_snil (j_end (nx_loop (.cons .rfl (.cons .rfl (.cons .rfl (.cons .rfl (.cons .rfl (.cons .rfl (.cons .rfl (.cons .any (.cons .any (.cons .any (.cons .any .nil)))))))))))))))))))))))))))))))) (.cons .rfl (.cons .rfl (.cons .rfl (.cons .rfl (.cons .rfl (.cons .rfl (.cons .rfl (.cons .any (.cons .any (.cons .any (.cons .any .nil))))))))))) fun b27 => (j_last (j_sRet (j_eCall (j_cons (j_var rfl (j_cons (j_var rfl (j_cons (j_var rfl (j_nil (j_nil (j_call (lk_rounded b27 bottom6 way5) (xok_any rfl) fun r28 => (j_ret' (rt_top rfl (le_any rfl))))))))))))))))))))))))))))) (ble rfl))))))))))))))))))))))))))))))))))))))))) (agr_is (agr_is (agr_any (agr_any (agr_any (agr_any (agr_any (agr_any (agr_any (agr_any (agr_any agr_nil))))))))))) rfl rfl (ble rfl)
set_option maxHeartbeats 4000000 in
theorem lk_tax (scale1 amount2 : D) : LkV (mf_tax [scale1, amount2]) (Lv.scales_tax scale1 amount2) :=
  lkv_of (n := 2) (Γ0 := [.is scale1, .is amount2]) (j_exp (j_eCall (j_cons (j_var rfl (j_nil (j_nil (j_call (lk_need_scale scale1) (xok_any rfl) fun r3 => (j_exp (j_eCall (j_cons (j_var rfl (j_nil (j_nil (j_call (lk_need_whole amount2) (xok_any rfl) fun r4 => (j_last (j_sRet (j_eCall (j_cons (j_var rfl (j_cons (j_var rfl (j_nil (j_nil (j_call (lk_own_tax scale1 amount2) (xok_any rfl) fun r5 => (j_ret' (rt_top rfl (le_any rfl))))))))))))))))))))))))))) (agr_is (agr_is agr_nil)) rfl rfl (ble rfl)
set_option maxHeartbeats 4000000 in
theorem lk_bracket (scale1 amount2 : D) : LkV (mf_bracket [scale1, amount2]) (Lv.scales_bracket scale1 amount2) :=
  lkv_of (n := 3) (Γ0 := [.is scale1, .is amount2, .any]) (j_exp (j_eCall (j_cons (j_var rfl (j_nil (j_nil (j_call (lk_need_scale scale1) (xok_any rfl) fun r3 => (j_exp (j_eCall (j_cons (j_var rfl (j_nil (j_nil (j_call (lk_need_whole amount2) (xok_any rfl) fun r4 => (j_if (j_tcp (j_var rfl (j_K (j_lift fun z5 => (j_ite (j_sRet (j_K (j_ret' (rt_top rfl (le_any rfl))))) (j_snil (j_last (j_sRet (j_op (j_b (j_cons (j_lc (j_iVal (j_ix (j_var rfl (j_K (j_lift fun z6 => (j_lift fun xs7 => (j_lcP (fun d8 => (j_lcB (j_gNmL [.is scale1, .is amount2, .is d8] rfl rfl (j_tcp (j_ix (j_var rfl (j_K (j_lift fun z9 => (j_var rfl (j_lift fun z10 => (j_ite (j_var rfl (j_val (.cons .rfl (.cons .rfl (.cons .any .nil))))) (j_val (.cons .rfl (.cons .rfl (.cons .any .nil))))))))))))))) fun xs11 => (j_nil (j_lift fun z12 => (j_K (j_lift fun z13 => (j_ret' (rt_top rfl (le_any rfl))))))))))))))))))))))))))))))))))))))))) (agr_is (agr_is (agr_any agr_nil))) rfl rfl (ble rfl)
def p__law_cell_b1 (d31 : D) (b30 : D) : Re (D) :=
  Re.ofO (opFdiv b30 (D.int 306783379)) fun own32 => .ok own32
def p__law_cell (cells1 spot2 : D) : Re (D × D) :=
  Re.ofO (ixD spot2 (D.int 0)) fun z3 => Re.ofO (opAdd z3 (D.int 1)) fun z4 => Re.ofO (setD spot2 (D.int 0) z4) fun spot5 => Re.ofO (ixD spot5 (D.int 0)) fun k6 => Re.ofO (opMul (D.int 31) k6) fun z7 => Re.ofO (opMul z7 k6) fun z8 => Re.ofO (opMul (D.int 7919) k6) fun z9 => Re.ofO (opAdd z8 z9) fun base10 => Re.esc (Re.bind (Re.and (Re.ofO ((bLen [cells1]).map D.v) fun z11 => Re.ofO (opGt z11 (D.int 0)) fun z12 => .ok z12) (Re.bind (Re.and (Re.ofO ((bLen [cells1]).map D.v) fun z13 => Re.ofO (opMod k6 z13) fun z14 => Re.ofO (ixD cells1 z14) fun z15 => Re.ofO (opPow (D.int 10) (D.int 18)) fun z16 => Re.ofO (opGe z15 z16) fun z17 => .ok z17) (Re.ofO ((bLen [cells1]).map D.v) fun z18 => Re.ofO (opFdiv k6 z18) fun z19 => Re.ofO (opLt z19 (D.int 60)) fun z20 => .ok z20)) fun b21 => .ok b21)) fun b22 => (if b22 = true then Re.ofO ((bLen [cells1]).map D.v) fun z24 => Re.ofO (opMod k6 z24) fun z25 => Re.ofO (ixD cells1 z25) fun own26 => Re.ofO ((bLen [cells1]).map D.v) fun z27 => Re.ofO (opFdiv k6 z27) fun z28 => Re.ofO (rngOf [z28]) fun xs29 => Re.bind (forP (p__law_cell_b1) xs29 own26) fun b33 => Re.ofO (opGt b33 (D.int 0)) fun z34 => (if z34 = true then Re.ofO (opMod b33 (D.int 306783379)) fun z35 => .ok (.rt (z35, spot5)) else .ok (.nx ())) else .ok (.nx ()))) fun j23 => Re.ofO ((bLen [cells1]).map D.v) fun z36 => Re.ofO (opGt z36 (D.int 0)) fun z37 => (if z37 = true then Re.ofO ((bLen [cells1]).map D.v) fun z38 => Re.ofO (opMod k6 z38) fun z39 => Re.ofO (ixD cells1 z39) fun z40 => Re.ofO (opMod z40 (D.int 2147483629)) fun z41 => Re.ofO ((bLen [cells1]).map D.v) fun z42 => Re.ofO (opFdiv k6 z42) fun z43 => Re.ofO (opAdd (D.int 1) z43) fun z44 => Re.ofO (opMul z41 z44) fun z45 => Re.ofO (opAdd base10 z45) fun base46 => Re.ofO (opMod base46 (D.int 2147483647)) fun z47 => Re.ofO (opPow z47 (D.int 5)) fun z48 => Re.ofO (opMod z48 (D.int 2147483647)) fun z49 => Re.ofO (opFdiv z49 (D.int 7)) fun z50 => .ok (z50, spot5) else Re.ofO (opMod base10 (D.int 2147483647)) fun z51 => Re.ofO (opPow z51 (D.int 5)) fun z52 => Re.ofO (opMod z52 (D.int 2147483647)) fun z53 => Re.ofO (opFdiv z53 (D.int 7)) fun z54 => .ok (z54, spot5))
set_option maxHeartbeats 4000000 in
theorem lk__law_cell (cells1 spot2 : D) : Lk (mf__law_cell [cells1, spot2]) (p__law_cell cells1 spot2) (fun c => c.1) (fun c => [cells1, c.2]) 2 :=
  lk_of (n := 6) (Γ0 := [.is cells1, .is spot2, .any, .any, .any, .any]) (Γx := [.any, .has, .any, .any, .any, .any]) (Γr := fun c => [.any, .is c.2, .any, .any, .any, .any]) (j_asg (j_op (j_ix (j_var rfl (j_K (j_lift fun z3 => (j_K (j_lift fun z4 => (j_gsetL (fun spot5 => [.is cells1, .is spot5, .any, .any, .any, .any]) rfl (j_eta (j_K (j_val (LeG.refl _)))) (fun _ => rfl) fun spot5 => (j_set (j_ix (j_var rfl (j_K (j_lift fun k6 => (j_setIL [.is cells1, .is spot5, .is k6, .any, .any, .any] rfl rfl (j_set (j_op (j_op (j_op (j_K (j_var rfl (j_lift fun z7 => (j_var rfl (j_lift fun z8 => (j_op (j_K (j_var rfl (j_lift fun z9 => (j_lift fun base10 => (j_setIL [.is cells1, .is spot5, .is k6, .is base10, .any, .any] rfl rfl (j_esc (Γj := (fun (_ : Unit) => [.is cells1, .is spot5, .is k6, .is base10, .any, .any])) (j_if' (j_tand (j_eta (j_tcp (j_b (j_cons (j_var rfl (j_nil (j_lift fun z11 => (j_K (j_lift fun z12 => (j_val (LeG.refl _))))))))))) (j_eta (j_tand (j_eta (j_tcp (j_ix (j_var rfl (j_op (j_var rfl (j_b (j_cons (j_var rfl (j_nil (j_lift fun z13 => (j_lift fun z14 => (j_lift fun z15 => (j_op (j_K (j_K (j_lift fun z16 => (j_lift fun z17 => (j_val (LeG.refl _)))))))))))))))))))) (j_eta (j_tcp (j_op (j_var rfl (j_b (j_cons (j_var rfl (j_nil (j_lift fun z18 => (j_lift fun z19 => (j_K (j_lift fun z20 => (j_val (LeG.refl _)))))))))))))) fun b21 => (j_val (LeG.refl _)))) fun b22 => (j_ite (j_set (j_ix (j_var rfl (j_op (j_var rfl (j_b (j_cons (j_var rfl (j_nil (j_lift fun z24 => (j_lift fun z25 => (j_lift fun own26 => (j_setIL [.is cells1, .is spot5, .is k6, .is base10, .is own26, .any] rfl rfl (j_for (j_iRng (j_cons (j_op (j_var rfl (j_b (j_cons (j_var rfl (j_nil (j_lift fun z27 => (j_lift fun z28 => (j_nil (j_lift fun xs29 => (j_forP (Γh := (fun (b30 : D) => [.is cells1, .is spot5, .is k6, .is base10, .is b30, .any])) (b := own26) (fun d31 b30 => (j_gNmL [.is cells1, .is spot5, .is k6, .is base10, .is b30, .is d31] rfl rfl (j_set (j_op (j_var rfl (j_K (j_lift fun own32 => (j_setIL [.is cells1, .is spot5, .is k6, .is base10, .is own32, .is d31] rfl rfl (j_end (nx_loop (.cons .rfl (.cons .rfl (.cons .rfl (.cons .rfl (.cons .rfl (.cons .any .nil)))))))))))))))) (.cons .rfl (.cons .rfl (.cons .rfl (.cons .rfl (.cons .rfl (.cons .any .nil)))))) fun b33 => (j_if (j_tcp (j_var rfl (j_K (j_lift fun z34 => (j_ite (j_sRet (j_op (j_var rfl (j_K (j_lift fun z35 => (j_ret' (rt_esc (rt_top rfl (.cons .any (.cons .rfl (.cons .any (.cons .any (.cons .any (.cons .any .nil)))))))))))))) (j_snil (j_end (nx_esc (.cons .rfl (.cons .rfl (.cons .rfl (.cons .rfl (.cons .any (.cons .any .nil)))))))))))))))))))))))))))))))))))))))))) (j_end (nx_esc (.cons .rfl (.cons .rfl (.cons .rfl (.cons .rfl (.cons .any (.cons .any .nil))))))))))) fun j23 => (j_if (j_tcp (j_b (j_cons (j_var rfl (j_nil (j_lift fun z36 => (j_K (j_lift fun z37 => (j_ite (j_ss (j_set (j_op (j_var rfl (j_op (j_op (j_ix (j_var rfl (j_op (j_var rfl (j_b (j_cons (j_var rfl (j_nil (j_lift fun z38 => (j_lift fun z39 => (j_lift fun z40 => (j_K (j_lift fun z41 => (j_op (j_K (j_op (j_var rfl (j_b (j_cons (j_var rfl (j_nil (j_lift fun z42 => (j_lift fun z43 => (j_lift fun z44 => (j_lift fun z45 => (j_lift fun base46 => (j_setIL [.is cells1, .is spot5, .is k6, .is base46, .any, .any] rfl rfl (j_snil (j_last (j_sRet (j_op (j_op (j_op (j_op (j_var rfl (j_K (j_lift fun z47 => (j_K (j_lift fun z48 => (j_K (j_lift fun z49 => (j_K (j_lift fun z50 => (j_ret' (rt_top rfl (.cons .any (.cons .rfl (.cons .any (.cons .any (.cons .any (.cons .any .nil))))))))))))))))))))))))))))))))))))))))))))))))))))))))) (j_snil (j_last (j_sRet (j_op (j_op (j_op (j_op (j_var rfl (j_K (j_lift fun z51 => (j_K (j_lift fun z52 => (j_K (j_lift fun z53 => (j_K (j_lift fun z54 => (j_ret' (rt_top rfl (.cons .any (.cons .rfl (.cons .any (.cons .any (.cons .any (.cons .any .nil))))))))))))))))))))))))))))))))))))))))))))))))))))))))))))))))) (agr_is (agr_is (agr_any (agr_any (agr_any (agr_any agr_nil)))))) (fun _ => rfl) rfl
def p__law_scale_b1 (cells1 : D) (d9 : D) (b8 : (D × D)) : Re ((D × D)) :=
  Re.bind (p__law_cell cells1 b8.1) fun c10 => Re.ofO (opNeg (D.int 1)) fun z11 => Re.ofO (ixD b8.2 z11) fun z12 => Re.ofO (opAdd z12 (D.int 1)) fun z13 => Re.ofO (opMod c10.1 (D.int 9)) fun z14 => Re.ofO (opMod c10.1 (D.int 1000)) fun z15 => Re.ofO (opPow (D.int 10) (D.int 6)) fun z16 => Re.ofO (opMod c10.1 z16) fun z17 => Re.ofO (opFdiv c10.1 (D.int 9)) fun z18 => Re.ofO (opMod z18 (D.int 3)) fun z19 => Re.ofO (ixD (D.lst [z14, z15, z17]) z19) fun z20 => Re.ofO (opAdd z13 z20) fun z21 => Re.ofO (mutD mAppend b8.2 [z21]) fun m22 => .ok (c10.2, m22.2)
def p__law_scale_b2 (cells1 : D) (d26 : D) (b25 : (D × D)) : Re ((D × D)) :=
  un2 d26 fun k27 begin28 => Re.bind (p__law_cell cells1 b25.1) fun c29 => Re.ofO (opMod c29.1 (D.int 1000)) fun z30 => Re.ofO (opAdd (D.int 1) z30) fun z31 => Re.ofO (opFdiv c29.1 (D.int 1000)) fun z32 => Re.ofO (opMod z32 (D.int 6)) fun z33 => Re.ofO (ixD (D.lst [(D.int 100), (D.int 10), z31, (D.int 3), (D.int 1), (D.int 7)]) z33) fun bottom_so34 => Re.ofO (opMod c29.1 (D.int 61)) fun z35 => Re.ofO (opMod c29.1 (D.int 2001)) fun z36 => Re.ofO (opSub z36 (D.int 1000)) fun z37 => Re.ofO (opMod c29.1 (D.int 11)) fun z38 => Re.ofO (opFdiv c29.1 (D.int 6000)) fun z39 => Re.ofO (opMod z39 (D.int 4)) fun z40 => Re.ofO (ixD (D.lst [z35, z37, (D.int 0), z38]) z40) fun z41 => Re.ofO (mutD mAppend b25.2 [(D.tup [begin28, z41, bottom_so34])]) fun m42 => .ok (c29.2, m42.2)
def p__law_scale (cells1 spot2 : D) : Re (D × D) :=
  Re.bind (p__law_cell cells1 spot2) fun c3 => Re.bind (p__law_cell cells1 c3.2) fun c4 => Re.ofO (opMod c3.1 (D.int 7)) fun z5 => Re.ofO (ixD (D.lst [(D.int 0), (D.int 1), (D.int 2), (D.int 3), (D.int 7), (D.int 4), (D.int 2)]) z5) fun z6 => Re.ofO (rngOf [z6]) fun xs7 => Re.bind (forP (p__law_scale_b1 cells1) xs7 (c4.2, (D.lst [(D.int 0)]))) fun b23 => Re.ofO (enumOfA [b23.2]) fun xs24 => Re.bind (forP (p__law_scale_b2 cells1) xs24 (b23.1, (D.lst []))) fun b43 => Re.ofO (opMod c4.1 (D.int 3)) fun z44 => Re.ofO (ixD (D.lst [(D.str "down"), (D.str "up"), (D.str "near")]) z44) fun z45 => Re.ofO (tupD b43.2) fun z46 => .ok ((D.tup [z45, z46]), b43.1)
set_option maxHeartbeats 4000000 in
theorem lk__law_scale (cells1 spot2 : D) : Lk (mf__law_scale [cells1, spot2]) (p__law_scale cells1 spot2) (fun c => c.1) (fun c => [cells1, c.2]) 2 :=
  lk_of (n := 11) (Γ0 := [.is cells1, .is spot2, .any, .any, .any, .any, .any, .any, .any, .any, .any]) (Γx := [.any, .has, .any, .any, .any, .any, .any, .any, .any, .any, .any]) (Γr := fun c => [.any, .is c.2, .any, .any, .any, .any, .any, .any, .any, .any, .any]) (j_par (j_cons (j_eCallG (j_gVal (j_var rfl (j_gOwn rfl (j_gNil0 (j_callG (Γ' := fun (c3 : (D × D)) => [.is cells1, .is c3.2, .any, .any, .any, .any, .any, .any, .any, .any, .any]) (lk__law_cell cells1 spot2) rfl (fun _ => rfl) rfl rfl (xok_some (.cons .any (.cons .rfl (.cons .any (.cons .any (.cons .any (.cons .any (.cons .any (.cons .any (.cons .any (.cons .any (.cons .any .nil)))))))))))) fun c3 => (j_cons (j_eCallG (j_gVal (j_var rfl (j_gOwn rfl (j_gNil0 (j_callG (Γ' := fun (c4 : (D × D)) => [.is cells1, .is c4.2, .any, .any, .any, .any, .any, .any, .any, .any, .any]) (lk__law_cell cells1 c3.2) rfl (fun _ => rfl) rfl rfl (xok_some (.cons .any (.cons .rfl (.cons .any (.cons .any (.cons .any (.cons .any (.cons .any (.cons .any (.cons .any (.cons .any (.cons .any .nil)))))))))))) fun c4 => (j_nil (j_setAL [.is cells1, .is c4.2, .is c3.1, .any, .any, .any, .any, .any, .any, .any, .any] rfl rfl (j_setAL [.is cells1, .is c4.2, .is c3.1, .is c4.1, .any, .any, .any, .any, .any, .any, .any] rfl rfl (j_setA0 (j_par (j_cons (j_eLst (j_cons (j_K (j_nil (j_lst (j_cons (j_eLst (j_nil (j_lst (j_nil (j_setAL [.is cells1, .is c4.2, .is c3.1, .is c4.1, .is (D.lst [(D.int 0)]), .any, .any, .any, .any, .any, .any] rfl rfl (j_setAL [.is cells1, .is c4.2, .is c3.1, .is c4.1, .is (D.lst [(D.int 0)]), .is (D.lst []), .any, .any, .any, .any, .any] rfl rfl (j_setA0 (j_for (j_iRng (j_cons (j_ix (j_eLst (j_cons (j_K (j_cons (j_K (j_cons (j_K (j_cons (j_K (j_cons (j_K (j_cons (j_K (j_cons (j_K (j_nil (j_lst (j_op (j_var rfl (j_K (j_lift fun z5 => (j_lift fun z6 => (j_nil (j_lift fun xs7 => (j_forP (Γh := (fun (b8 : (D × D)) => [.is cells1, .is b8.1, .is c3.1, .is c4.1, .is b8.2, .is (D.lst []), .any, .any, .any, .any, .any])) (b := (c4.2, (D.lst [(D.int 0)]))) (fun d9 b8 => (j_gNmL [.is cells1, .is b8.1, .is c3.1, .is c4.1, .is b8.2, .is (D.lst []), .is d9, .any, .any, .any, .any] rfl rfl (j_set (j_eCallG (j_gVal (j_var rfl (j_gOwn rfl (j_gNil0 (j_callG (Γ' := fun (c10 : (D × D)) => [.is cells1, .is c10.2, .is c3.1, .is c4.1, .is b8.2, .is (D.lst []), .is d9, .any, .any, .any, .any]) (lk__law_cell cells1 b8.1) rfl (fun _ => rfl) rfl rfl (xok_some (.cons .any (.cons .rfl (.cons .any (.cons .any (.cons .any (.cons .any (.cons .any (.cons .any (.cons .any (.cons .any (.cons .any .nil)))))))))))) fun c10 => (j_setIL [.is cells1, .is c10.2, .is c3.1, .is c4.1, .is b8.2, .is (D.lst []), .is d9, .is c10.1, .any, .any, .any] rfl rfl (j_exp (j_mut rfl (j_cons (j_op (j_op (j_ix (j_var rfl (j_un (j_K (j_lift fun z11 => (j_lift fun z12 => (j_K (j_lift fun z13 => (j_ix (j_eLst (j_cons (j_op (j_var rfl (j_K (j_lift fun z14 => (j_cons (j_op (j_var rfl (j_K (j_lift fun z15 => (j_cons (j_op (j_var rfl (j_op (j_K (j_K (j_lift fun z16 => (j_lift fun z17 => (j_nil (j_lst (j_op (j_op (j_var rfl (j_K (j_lift fun z18 => (j_K (j_lift fun z19 => (j_lift fun z20 => (j_lift fun z21 => (j_nil (mutM_runL (fun m22 => [.is cells1, .is c10.2, .is c3.1, .is c4.1, .is m22.2, .is (D.lst []), .is d9, .is c10.1, .any, .any, .any]) rfl (fun _ => rfl) fun m22 => (j_end (nx_loop (.cons .rfl (.cons .rfl (.cons .rfl (.cons .rfl (.cons .rfl (.cons .rfl (.cons .any (.cons .any (.cons .any (.cons .any (.cons .any .nil)))))))))))))))))))))))) (ble rfl)))))))))))))))))))))))))))))))))))))))))))))) (.cons .rfl (.cons .rfl (.cons .rfl (.cons .rfl (.cons .rfl (.cons .rfl (.cons .any (.cons .any (.cons .any (.cons .any (.cons .any .nil))))))))))) fun b23 => (j_for (j_iEnum (j_cons (j_var rfl (j_nil (j_lift fun xs24 => (j_forP (Γh := (fun (b25 : (D × D)) => [.is cells1, .is b25.1, .is c3.1, .is c4.1, .is b23.2, .is b25.2, .any, .any, .any, .any, .any])) (b := (b23.1, (D.lst []))) (fun d26 b25 => (j_un2 fun k27 begin28 => (j_gCons (j_gNmL [.is cells1, .is b25.1, .is c3.1, .is c4.1, .is b23.2, .is b25.2, .is k27, .any, .any, .any, .any] rfl rfl (j_gCons (j_gNmL [.is cells1, .is b25.1, .is c3.1, .is c4.1, .is b23.2, .is b25.2, .is k27, .any, .is begin28, .any, .any] rfl rfl (j_gNil (j_set (j_eCallG (j_gVal (j_var rfl (j_gOwn rfl (j_gNil0 (j_callG (Γ' := fun (c29 : (D × D)) => [.is cells1, .is c29.2, .is c3.1, .is c4.1, .is b23.2, .is b25.2, .is k27, .any, .is begin28, .any, .any]) (lk__law_cell cells1 b25.1) rfl (fun _ => rfl) rfl rfl (xok_some (.cons .any (.cons .rfl (.cons .any (.cons .any (.cons .any (.cons .any (.cons .any (.cons .any (.cons .any (.cons .any (.cons .any .nil)))))))))))) fun c29 => (j_setIL [.is cells1, .is c29.2, .is c3.1, .is c4.1, .is b23.2, .is b25.2, .is k27, .any, .is begin28, .is c29.1, .any] rfl rfl (j_set (j_ix (j_eLst (j_cons (j_K (j_cons (j_K (j_cons (j_op (j_K (j_op (j_var rfl (j_K (j_lift fun z30 => (j_lift fun z31 => (j_cons (j_K (j_cons (j_K (j_cons (j_K (j_nil (j_lst (j_op (j_op (j_var rfl (j_K (j_lift fun z32 => (j_K (j_lift fun z33 => (j_lift fun bottom_so34 => (j_setIL [.is cells1, .is c29.2, .is c3.1, .is c4.1, .is b23.2, .is b25.2, .is k27, .any, .is begin28, .is c29.1, .is bottom_so34] rfl rfl (j_exp (j_mut rfl (j_cons (j_eTup (j_cons (j_var rfl (j_cons (j_ix (j_eLst (j_cons (j_op (j_var rfl (j_K (j_lift fun z35 => (j_cons (j_op (j_op (j_var rfl (j_K (j_lift fun z36 => (j_K (j_lift fun z37 => (j_cons (j_K (j_cons (j_op (j_var rfl (j_K (j_lift fun z38 => (j_nil (j_lst (j_op (j_op (j_var rfl (j_K (j_lift fun z39 => (j_K (j_lift fun z40 => (j_lift fun z41 => (j_cons (j_var rfl (j_nil (j_tup (j_nil (mutM_runL (fun m42 => [.is cells1, .is c29.2, .is c3.1, .is c4.1, .is b23.2, .is m42.2, .is k27, .any, .is begin28, .is c29.1, .is bottom_so34]) rfl (fun _ => rfl) fun m42 => (j_end (nx_loop (.cons .rfl (.cons .rfl (.cons .rfl (.cons .rfl (.cons .rfl (.cons .rfl (.cons .any (.cons .any (.cons .any (.cons .any (.cons .any .nil))))))))))))))) (ble rfl))))))))))))) (ble rfl))))))))))))))))))))))))))))))))))))))))) (ble rfl))))))))))))))))))))))))))))))))))))))) (.cons .rfl (.cons .rfl (.cons .rfl (.cons .rfl (.cons .rfl (.cons .rfl (.cons .any (.cons .any (.cons .any (.cons .any (.cons .any .nil))))))))))) fun b43 => (j_last (j_sRet (j_eTup (j_cons (j_ix (j_eLst (j_cons (j_K (j_cons (j_K (j_cons (j_K (j_nil (j_lst (j_op (j_var rfl (j_K (j_lift fun z44 => (j_lift fun z45 => (j_cons (j_un (j_var rfl (j_lift fun z46 => (j_nil (j_tup (j_ret' (rt_top rfl (.cons .any (.cons .rfl (.cons .any (.cons .any (.cons .any (.cons .any (.cons .any (.cons .any (.cons .any (.cons .any (.cons .any .nil))))))))))))) (ble rfl)))))))))))) (ble rfl)))))))))))))))))))))))))))))) (ble rfl)))))))))))))))))))))))))) (ble rfl))))) (ble rfl))))))))))))))))))))))))))) (agr_is (agr_is (agr_any (agr_any (agr_any (agr_any (agr_any (agr_any (agr_any (agr_any (agr_any agr_nil))))))))))) (fun _ => rfl) rfl
def p__law_turned_l1 (d6 : D) : Re (Option D) :=
  un3 d6 fun a7 b8 c9 => Re.ofO (opNeg b8) fun z10 => .ok (some (D.tup [a7, z10, c9]))
def p__law_turned (scale_so1 : D) : Re D :=
  un2 scale_so1 fun round_so2 rows_3 => Re.ofO (dgetD (D.dct [(D.str "down", (D.str "up")), (D.str "up", (D.str "down")), (D.str "near", (D.str "near"))]) round_so2) fun z4 => Re.ofO (itemsOf rows_3) fun xs5 => Re.bind (lcGo (p__law_turned_l1) xs5) fun xs11 => Re.ofO (tupD (D.lst xs11)) fun z12 => .ok (D.tup [z4, z12])
set_option maxHeartbeats 4000000 in
theorem lk__law_turned (scale_so1 : D) : LkV (mf__law_turned [scale_so1]) (p__law_turned scale_so1) :=
  lkv_of (n := 6) (Γ0 := [.is scale_so1, .any, .any, .any, .any, .any]) (j_asg (j_var rfl (j_un2 fun round_so2 rows_3 => (j_gCons (j_gNmL [.is scale_so1, .is round_so2, .any, .any, .any, .any] rfl rfl (j_gCons (j_gNmL [.is scale_so1, .is round_so2, .is rows_3, .any, .any, .any] rfl rfl (j_gNil (j_last (j_sRet (j_eTup (j_cons (j_op (j_disp (j_cons (j_K (j_cons (j_K (j_cons (j_K (j_nil (j_var rfl (j_lift fun z4 => (j_cons (j_un (j_lc (j_iVal (j_var rfl (j_lift fun xs5 => (j_lcP (fun d6 => (j_lcB (j_un3 fun a7 b8 c9 => (j_gCons (j_gNmL [.is scale_so1, .is round_so2, .is rows_3, .is a7, .any, .any] rfl rfl (j_gCons (j_gNmL [.is scale_so1, .is round_so2, .is rows_3, .is a7, .is b8, .any] rfl rfl (j_gCons (j_gNmL [.is scale_so1, .is round_so2, .is rows_3, .is a7, .is b8, .is c9] rfl rfl (j_gNil (j_yes (j_ifT (j_eTup (j_cons (j_var rfl (j_cons (j_un (j_var rfl (j_lift fun z10 => (j_cons (j_var rfl (j_nil (j_tup (j_val (.cons .rfl (.cons .rfl (.cons .rfl (.cons .any (.cons .any (.cons .any .nil))))))) (ble rfl)))))))))))))))))))))))) fun xs11 => (j_lift fun z12 => (j_nil (j_tup (j_ret' (rt_top rfl (le_any rfl))) (ble rfl)))))))))))))))))))))))))))))))))) (agr_is (agr_any (agr_any (agr_any (agr_any (agr_any agr_nil)))))) rfl rfl (ble rfl)
def p__law_beyond_l1 (border2 : D) (d6 : D) : Re (Option D) :=
  Re.ofO (ixD d6 (D.int 0)) fun z7 => Re.ofO (opLe z7 border2) fun z8 => if z8 = true then .ok (some d6) else .ok none
def p__law_beyond_l2 (border2 : D) (d13 : D) : Re (Option D) :=
  Re.ofO (ixD d13 (D.int 0)) fun z14 => Re.ofO (opGt z14 border2) fun z15 => if z15 = true then Re.ofO (ixD d13 (D.int 0)) fun z16 => Re.ofO (opSub z16 border2) fun z17 => Re.ofO (asI (D.int 1)) fun i18 => Re.ofO (slX d13 (some i18) none) fun z19 => Re.ofO (opAdd (D.tup [z17]) z19) fun z20 => .ok (some z20) else .ok none
def p__law_beyond (scale_so1 border2 : D) : Re D :=
  un2 scale_so1 fun round_so3 rows_4 => Re.ofO (itemsOf rows_4) fun xs5 => Re.bind (lcGo (p__law_beyond_l1 border2) xs5) fun xs9 => Re.ofO (opNeg (D.int 1)) fun z10 => Re.ofO (ixD (D.lst xs9) z10) fun here11 => Re.ofO (itemsOf rows_4) fun xs12 => Re.bind (lcGo (p__law_beyond_l2 border2) xs12) fun xs21 => Re.ofO (asI (D.int 1)) fun i22 => Re.ofO (slX here11 (some i22) none) fun z23 => Re.ofO (opAdd (D.tup [(D.int 0)]) z23) fun z24 => Re.ofO (tupD (D.lst xs21)) fun z25 => Re.ofO (opAdd (D.tup [z24]) z25) fun z26 => .ok (D.tup [round_so3, z26])
set_option maxHeartbeats 4000000 in
theorem lk__law_beyond (scale_so1 border2 : D) : LkV (mf__law_beyond [scale_so1, border2]) (p__law_beyond scale_so1 border2) :=
  lkv_of (n := 7) (Γ0 := [.is scale_so1, .is border2, .any, .any, .any, .any, .any]) (j_asg (j_var rfl (j_un2 fun round_so3 rows_4 => (j_gCons (j_gNmL [.is scale_so1, .is border2, .is round_so3, .any, .any, .any, .any] rfl rfl (j_gCons (j_gNmL [.is scale_so1, .is border2, .is round_so3, .is rows_4, .any, .any, .any] rfl rfl (j_gNil (j_set (j_ix (j_lc (j_iVal (j_var rfl (j_lift fun xs5 => (j_lcP (fun d6 => (j_lcB (j_gNmL [.is scale_so1, .is border2, .is round_so3, .is rows_4, .any, .any, .is d6] rfl rfl (j_tcp (j_ix (j_var rfl (j_K (j_lift fun z7 => (j_var rfl (j_lift fun z8 => (j_ite (j_var rfl (j_val (.cons .rfl (.cons .rfl (.cons .rfl (.cons .rfl (.cons .any (.cons .any (.cons .any .nil))))))))) (j_val (.cons .rfl (.cons .rfl (.cons .rfl (.cons .rfl (.cons .any (.cons .any (.cons .any .nil))))))))))))))))))) fun xs9 => (j_un (j_K (j_lift fun z10 => (j_lift fun here11 => (j_setIL [.is scale_so1, .is border2, .is round_so3, .is rows_4, .is here11, .any, .any] rfl rfl (j_set (j_lc (j_iVal (j_var rfl (j_lift fun xs12 => (j_lcP (fun d13 => (j_lcB (j_gNmL [.is scale_so1, .is border2, .is round_so3, .is rows_4, .is here11, .any, .is d13] rfl rfl (j_tcp (j_ix (j_var rfl (j_K (j_lift fun z14 => (j_var rfl (j_lift fun z15 => (j_ite (j_op (j_eTup (j_cons (j_op (j_ix (j_var rfl (j_K (j_lift fun z16 => (j_var rfl (j_lift fun z17 => (j_nil (j_tup (j_sl (j_var rfl (j_oSome (j_K (j_lift fun i18 => (j_oNone (j_lift fun z19 => (j_lift fun z20 => (j_val (.cons .rfl (.cons .rfl (.cons .rfl (.cons .rfl (.cons .rfl (.cons .any (.cons .any .nil)))))))))))))))) (ble rfl))))))))))))) (j_val (.cons .rfl (.cons .rfl (.cons .rfl (.cons .rfl (.cons .rfl (.cons .any (.cons .any .nil))))))))))))))))))) fun xs21 => (j_setIL [.is scale_so1, .is border2, .is round_so3, .is rows_4, .is here11, .is (D.lst xs21), .any] rfl rfl (j_last (j_sRet (j_eTup (j_cons (j_var rfl (j_cons (j_op (j_eTup (j_cons (j_op (j_eTup (j_cons (j_K (j_nil (j_tup (j_sl (j_var rfl (j_oSome (j_K (j_lift fun i22 => (j_oNone (j_lift fun z23 => (j_lift fun z24 => (j_nil (j_tup (j_un (j_var rfl (j_lift fun z25 => (j_lift fun z26 => (j_nil (j_tup (j_ret' (rt_top rfl (le_any rfl))) (ble rfl))))))) (ble rfl))))))))))) (ble rfl))))))))))))))))))))))))))))))))))))))))))) (agr_is (agr_is (agr_any (agr_any (agr_any (agr_any (agr_any agr_nil))))))) rfl rfl (ble rfl)
def p__law_with_row_l1 (border2 : D) (d6 : D) : Re (Option D) :=
  Re.ofO (ixD d6 (D.int 0)) fun z7 => Re.ofO (opLe z7 border2) fun z8 => if z8 = true then .ok (some d6) else .ok none
def p__law_with_row_l2 (border2 : D) (d11 : D) : Re (Option D) :=
  Re.ofO (ixD d11 (D.int 0)) fun z12 => Re.ofO (opGt z12 border2) fun z13 => if z13 = true then .ok (some d11) else .ok none
def p__law_with_row (scale_so1 border2 : D) : Re D :=
  un2 scale_so1 fun round_so3 rows_4 => Re.ofO (itemsOf rows_4) fun xs5 => Re.bind (lcGo (p__law_with_row_l1 border2) xs5) fun xs9 => Re.ofO (itemsOf rows_4) fun xs10 => Re.bind (lcGo (p__law_with_row_l2 border2) xs10) fun xs14 => Re.bind (Re.or (Re.ofO (opNeg (D.int 1)) fun z15 => Re.ofO (ixD (D.lst xs9) z15) fun z16 => Re.ofO (ixD z16 (D.int 0)) fun z17 => Re.ofO (opEq z17 border2) fun z18 => .ok z18) (Re.ofO ((bLen [rows_4]).map D.v) fun z19 => Re.ofO (opGt z19 (D.int 7)) fun z20 => .ok z20)) fun b21 => (if b21 = true then .ok scale_so1 else Re.ofO (tupD (D.lst xs9)) fun z22 => Re.ofO (opNeg (D.int 1)) fun z23 => Re.ofO (ixD (D.lst xs9) z23) fun z24 => Re.ofO (asI (D.int 1)) fun i25 => Re.ofO (slX z24 (some i25) none) fun z26 => Re.ofO (opAdd (D.tup [border2]) z26) fun z27 => Re.ofO (opAdd z22 (D.tup [z27])) fun z28 => Re.ofO (tupD (D.lst xs14)) fun z29 => Re.ofO (opAdd z28 z29) fun z30 => .ok (D.tup [round_so3, z30]))
set_option maxHeartbeats 4000000 in
theorem lk__law_with_row (scale_so1 border2 : D) : LkV (mf__law_with_row [scale_so1, border2]) (p__law_with_row scale_so1 border2) :=
  lkv_of (n := 7) (Γ0 := [.is scale_so1, .is border2, .any, .any, .any, .any, .any]) (j_asg (j_var rfl (j_un2 fun round_so3 rows_4 => (j_gCons (j_gNmL [.is scale_so1, .is border2, .is round_so3, .any, .any, .any, .any] rfl rfl (j_gCons (j_gNmL [.is scale_so1, .is border2, .is round_so3, .is rows_4, .any, .any, .any] rfl rfl (j_gNil (j_par (j_cons (j_lc (j_iVal (j_var rfl (j_lift fun xs5 => (j_lcP (fun d6 => (j_lcB (j_gNmL [.is scale_so1, .is border2, .is round_so3, .is rows_4, .any, .any, .is d6] rfl rfl (j_tcp (j_ix (j_var rfl (j_K (j_lift fun z7 => (j_var rfl (j_lift fun z8 => (j_ite (j_var rfl (j_val (.cons .rfl (.cons .rfl (.cons .rfl (.cons .rfl (.cons .any (.cons .any (.cons .any .nil))))))))) (j_val (.cons .rfl (.cons .rfl (.cons .rfl (.cons .rfl (.cons .any (.cons .any (.cons .any .nil))))))))))))))))))) fun xs9 => (j_cons (j_lc (j_iVal (j_var rfl (j_lift fun xs10 => (j_lcP (fun d11 => (j_lcB (j_gNmL [.is scale_so1, .is border2, .is round_so3, .is rows_4, .any, .any, .is d11] rfl rfl (j_tcp (j_ix (j_var rfl (j_K (j_lift fun z12 => (j_var rfl (j_lift fun z13 => (j_ite (j_var rfl (j_val (.cons .rfl (.cons .rfl (.cons .rfl (.cons .rfl (.cons .any (.cons .any (.cons .any .nil))))))))) (j_val (.cons .rfl (.cons .rfl (.cons .rfl (.cons .rfl (.cons .any (.cons .any (.cons .any .nil))))))))))))))))))) fun xs14 => (j_nil (j_setAL [.is scale_so1, .is border2, .is round_so3, .is rows_4, .is (D.lst xs9), .any, .any] rfl rfl (j_setAL [.is scale_so1, .is border2, .is round_so3, .is rows_4, .is (D.lst xs9), .is (D.lst xs14), .any] rfl rfl (j_setA0 (j_if (j_tor (j_eta (j_tcp (j_ix (j_ix (j_var rfl (j_un (j_K (j_lift fun z15 => (j_lift fun z16 => (j_K (j_lift fun z17 => (j_var rfl (j_lift fun z18 => (j_val (LeG.refl _))))))))))))))) (j_eta (j_tcp (j_b (j_cons (j_var rfl (j_nil (j_lift fun z19 => (j_K (j_lift fun z20 => (j_val (LeG.refl _))))))))))) fun b21 => (j_ite (j_sRet (j_var rfl (j_ret' (rt_top rfl (le_any rfl))))) (j_snil (j_last (j_sRet (j_eTup (j_cons (j_var rfl (j_cons (j_op (j_op (j_un (j_var rfl (j_lift fun z22 => (j_eTup (j_cons (j_op (j_eTup (j_cons (j_var rfl (j_nil (j_tup (j_sl (j_ix (j_var rfl (j_un (j_K (j_lift fun z23 => (j_lift fun z24 => (j_oSome (j_K (j_lift fun i25 => (j_oNone (j_lift fun z26 => (j_lift fun z27 => (j_nil (j_tup (j_lift fun z28 => (j_un (j_var rfl (j_lift fun z29 => (j_lift fun z30 => (j_nil (j_tup (j_ret' (rt_top rfl (le_any rfl))) (ble rfl)))))))) (ble rfl)))))))))))))))) (ble rfl))))))))))))))))))))))))))))))))))))))))))))))))) (agr_is (agr_is (agr_any (agr_any (agr_any (agr_any (agr_any agr_nil))))))) rfl rfl (ble rfl)
def p__law_right_l1 (d31 : D) : Re (Option D) :=
  Re.ofO (ixD d31 (D.int 1)) fun z32 => Re.ofO (opLt z32 (D.int 0)) fun z33 => if z33 = true then .ok (some d31) else .ok none
def p__law_right_l2 (d49 : D) : Re (Option D) :=
  Re.ofO (ixD d49 (D.int 1)) fun z50 => Re.ofO ((bAbs [z50]).map D.v) fun z51 => Re.ofO (opGt z51 (D.int 1000)) fun z52 => if z52 = true then .ok (some d49) else .ok none
def p__law_right_l3 (whole45 : D) (d57 : D) : Re (Option D) :=
  Re.ofO (opAdd d57 (D.tup [whole45])) fun z58 => .ok (some z58)
def p__law_right (scale_so1 amount_so2 border3 : D) : Re D :=
  Re.bind (Lv.scales_tax scale_so1 amount_so2) fun r4 => Re.bind (p__law_turned scale_so1) fun r5 => Re.bind (Lv.scales_tax r5 amount_so2) fun r6 => Re.bind (Re.and (Re.ofO (ixD scale_so1 (D.int 0)) fun z7 => Re.ofO (opNe z7 (D.str "near")) fun z8 => .ok z8) (Re.ofO (opNeg r6) fun z9 => Re.ofO (opNe r4 z9) fun z10 => .ok z10)) fun b11 => (if b11 = true then .ok (D.bl false) else Re.bind (Re.or (Re.bind (p__law_with_row scale_so1 border3) fun r12 => Re.bind (Lv.scales_tax r12 amount_so2) fun r13 => Re.ofO (opNe r13 r4) fun z14 => .ok z14) (Re.bind (p__law_with_row scale_so1 border3) fun r15 => Re.bind (Lv.scales_is_scale r15) fun r16 => Re.ofO (asB r16) fun b17 => .ok (!b17))) fun b18 => (if b18 = true then .ok (D.bl false) else Re.ofO ((bMin [amount_so2, border3]).map D.v) fun z19 => Re.bind (Lv.scales_tax scale_so1 z19) fun r20 => Re.bind (p__law_beyond scale_so1 border3) fun r21 => Re.ofO (opSub amount_so2 border3) fun z22 => Re.bind (Lv.scales_tax r21 z22) fun r23 => Re.ofO (opAdd r20 r23) fun both24 => Re.ofO (opNeg (D.int 1)) fun z25 => Re.ofO (opSub both24 r4) fun z26 => Re.bind (Re.chain (opLe z25 z26) (Re.ofO (opLe z26 (D.int 1)) fun b27 => .ok b27)) fun b28 => (if (!b28) = true then .ok (D.bl false) else Re.ofO (ixD scale_so1 (D.int 1)) fun z29 => Re.ofO (itemsOf z29) fun xs30 => Re.bind (lcGo (p__law_right_l1) xs30) fun xs34 => Re.bind (Re.and (Re.ofO (opEq (D.lst xs34) (D.lst [])) fun z35 => .ok z35) (Re.ofO (opSub amount_so2 (D.int 1)) fun z36 => Re.bind (Lv.scales_tax scale_so1 z36) fun r37 => Re.bind (Re.chain (opLe r37 r4) (Re.ofO (opAdd amount_so2 (D.int 1)) fun z38 => Re.bind (Lv.scales_tax scale_so1 z38) fun r39 => Re.ofO (opLe r4 r39) fun b40 => .ok b40)) fun b41 => .ok (!b41))) fun b42 => (if b42 = true then .ok (D.bl false) else Re.bind (Lv.scales_scale_together scale_so1) fun r43 => un3 r43 fun round_so44 whole45 rows_46 => Re.bind (Re.or (Re.ofO (opGt whole45 (D.int 1000)) fun z47 => .ok z47) (Re.ofO (itemsOf rows_46) fun xs48 => Re.bind (lcGo (p__law_right_l2) xs48) fun xs53 => Re.ofO (opNe (D.lst xs53) (D.lst [])) fun z54 => .ok z54)) fun b55 => (if b55 = true then .ok (D.bl true) else Re.ofO (itemsOf rows_46) fun xs56 => Re.bind (lcGo (p__law_right_l3 whole45) xs56) fun xs59 => Re.ofO (tupD (D.lst xs59)) fun z60 => Re.bind (Lv.scales_tax (D.tup [round_so44, z60]) amount_so2) fun r61 => Re.ofO (opEq r61 r4) fun z62 => .ok (D.bl z62))))))
set_option maxHeartbeats 4000000 in
theorem lk__law_right (scale_so1 amount_so2 border3 : D) : LkV (mf__law_right [scale_so1, amount_so2, border3]) (p__law_right scale_so1 amount_so2 border3) :=
  lkv_of (n := 11) (Γ0 := [.is scale_so1, .is amount_so2, .is border3, .any, .any, .any, .any, .any, .any, .any, .any]) (j_par (j_cons (j_eCall (j_cons (j_var rfl (j_cons (j_var rfl (j_nil (j_nil (j_call (lk_tax scale_so1 amount_so2) (xok_any rfl) fun r4 => (j_cons (j_eCall (j_cons (j_eCall (j_cons (j_var rfl (j_nil (j_nil (j_call (lk__law_turned scale_so1) (xok_any rfl) fun r5 => (j_cons (j_var rfl (j_nil (j_nil (j_call (lk_tax r5 amount_so2) (xok_any rfl) fun r6 => (j_nil (j_setAL [.is scale_so1, .is amount_so2, .is border3, .is r4, .any, .any, .any, .any, .any, .any, .any] rfl rfl (j_setAL [.is scale_so1, .is amount_so2, .is border3, .is r4, .is r6, .any, .any, .any, .any, .any, .any] rfl rfl (j_setA0 (j_if (j_tand (j_eta (j_tcp (j_ix (j_var rfl (j_K (j_lift fun z7 => (j_K (j_lift fun z8 => (j_val (LeG.refl _)))))))))) (j_eta (j_tcp (j_var rfl (j_un (j_var rfl (j_lift fun z9 => (j_lift fun z10 => (j_val (LeG.refl _))))))))) fun b11 => (j_ite (j_sRet (j_K (j_ret' (rt_top rfl (le_any rfl))))) (j_snil (j_if (j_tor (j_eta (j_tcp (j_eCall (j_cons (j_eCall (j_cons (j_var rfl (j_cons (j_var rfl (j_nil (j_nil (j_call (lk__law_with_row scale_so1 border3) (xok_any rfl) fun r12 => (j_cons (j_var rfl (j_nil (j_nil (j_call (lk_tax r12 amount_so2) (xok_any rfl) fun r13 => (j_var rfl (j_lift fun z14 => (j_val (LeG.refl _))))))))))))))))))))) (j_eta (j_tnot (j_tval (j_eCall (j_cons (j_eCall (j_cons (j_var rfl (j_cons (j_var rfl (j_nil (j_nil (j_call (lk__law_with_row scale_so1 border3) (xok_any rfl) fun r15 => (j_nil (j_nil (j_call (lk_is_scale r15) (xok_any rfl) fun r16 => (j_lift fun b17 => (j_val (LeG.refl _))))))))))))))))))) fun b18 => (j_ite (j_sRet (j_K (j_ret' (rt_top rfl (le_any rfl))))) (j_snil (j_set (j_op (j_eCall (j_cons (j_var rfl (j_cons (j_b (j_cons (j_var rfl (j_cons (j_var rfl (j_nil (j_lift fun z19 => (j_nil (j_nil (j_call (lk_tax scale_so1 z19) (xok_any rfl) fun r20 => (j_eCall (j_cons (j_eCall (j_cons (j_var rfl (j_cons (j_var rfl (j_nil (j_nil (j_call (lk__law_beyond scale_so1 border3) (xok_any rfl) fun r21 => (j_cons (j_op (j_var rfl (j_var rfl (j_lift fun z22 => (j_nil (j_nil (j_call (lk_tax r21 z22) (xok_any rfl) fun r23 => (j_lift fun both24 => (j_setIL [.is scale_so1, .is amount_so2, .is border3, .is r4, .is r6, .is both24, .any, .any, .any, .any, .any] rfl rfl (j_if (j_tnot (j_tchn2 (j_un (j_K (j_lift fun z25 => (j_op (j_var rfl (j_var rfl (j_lift fun z26 => (j_ichn2 (j_eta (j_bb (j_K (j_lift fun b27 => (j_val (LeG.refl _)))))) fun b28 => (j_ite (j_sRet (j_K (j_ret' (rt_top rfl (le_any rfl))))) (j_snil (j_set (j_lc (j_iVal (j_ix (j_var rfl (j_K (j_lift fun z29 => (j_lift fun xs30 => (j_lcP (fun d31 => (j_lcB (j_gNmL [.is scale_so1, .is amount_so2, .is border3, .is r4, .is r6, .is both24, .any, .any, .any, .any, .is d31] rfl rfl (j_tcp (j_ix (j_var rfl (j_K (j_lift fun z32 => (j_K (j_lift fun z33 => (j_ite (j_var rfl (j_val (.cons .rfl (.cons .rfl (.cons .rfl (.cons .rfl (.cons .rfl (.cons .rfl (.cons .any (.cons .any (.cons .any (.cons .any (.cons .any .nil))))))))))))) (j_val (.cons .rfl (.cons .rfl (.cons .rfl (.cons .rfl (.cons .rfl (.cons .rfl (.cons .any (.cons .any (.cons .any (.cons .any (.cons .any .nil))))))))))))))))))))))) fun xs34 => (j_setIL [.is scale_so1, .is amount_so2, .is border3, .is r4, .is r6, .is both24, .is (D.lst xs34), .any, .any, .any, .any] rfl rfl (j_if (j_tand (j_eta (j_tcp (j_var rfl (j_eLst (j_nil (j_lst (j_lift fun z35 => (j_val (LeG.refl _))) (ble rfl))))))) (j_eta (j_tnot (j_tchn2 (j_eCall (j_cons (j_var rfl (j_cons (j_op (j_var rfl (j_K (j_lift fun z36 => (j_nil (j_nil (j_call (lk_tax scale_so1 z36) (xok_any rfl) fun r37 => (j_var rfl (j_ichn2 (j_eta (j_bb (j_eCall (j_cons (j_var rfl (j_cons (j_op (j_var rfl (j_K (j_lift fun z38 => (j_nil (j_nil (j_call (lk_tax scale_so1 z38) (xok_any rfl) fun r39 => (j_lift fun b40 => (j_val (LeG.refl _)))))))))))))))) fun b41 => (j_val (LeG.refl _)))))))))))))))))) fun b42 => (j_ite (j_sRet (j_K (j_ret' (rt_top rfl (le_any rfl))))) (j_snil (j_asg (j_eCall (j_cons (j_var rfl (j_nil (j_nil (j_call (lk_scale_together scale_so1) (xok_any rfl) fun r43 => (j_un3 fun round_so44 whole45 rows_46 => (j_gCons (j_gNmL [.is scale_so1, .is amount_so2, .is border3, .is r4, .is r6, .is both24, .is (D.lst xs34), .is round_so44, .any, .any, .any] rfl rfl (j_gCons (j_gNmL [.is scale_so1, .is amount_so2, .is border3, .is r4, .is r6, .is both24, .is (D.lst xs34), .is round_so44, .is whole45, .any, .any] rfl rfl (j_gCons (j_gNmL [.is scale_so1, .is amount_so2, .is border3, .is r4, .is r6, .is both24, .is (D.lst xs34), .is round_so44, .is whole45, .is rows_46, .any] rfl rfl (j_gNil (j_if (j_tor (j_eta (j_tcp (j_var rfl (j_K (j_lift fun z47 => (j_val (LeG.refl _))))))) (j_eta (j_tcp (j_lc (j_iVal (j_var rfl (j_lift fun xs48 => (j_lcP (fun d49 => (j_lcB (j_gNmL [.is scale_so1, .is amount_so2, .is border3, .is r4, .is r6, .is both24, .is (D.lst xs34), .is round_so44, .is whole45, .is rows_46, .is d49] rfl rfl (j_tcp (j_b (j_cons (j_ix (j_var rfl (j_K (j_lift fun z50 => (j_nil (j_lift fun z51 => (j_K (j_lift fun z52 => (j_ite (j_var rfl (j_val (.cons .rfl (.cons .rfl (.cons .rfl (.cons .rfl (.cons .rfl (.cons .rfl (.cons .rfl (.cons .rfl (.cons .rfl (.cons .rfl (.cons .any .nil))))))))))))) (j_val (.cons .rfl (.cons .rfl (.cons .rfl (.cons .rfl (.cons .rfl (.cons .rfl (.cons .rfl (.cons .rfl (.cons .rfl (.cons .rfl (.cons .any .nil))))))))))))))))))))))))))) fun xs53 => (j_eLst (j_nil (j_lst (j_lift fun z54 => (j_val (LeG.refl _))) (ble rfl))))))))))) fun b55 => (j_ite (j_sRet (j_K (j_ret' (rt_top rfl (le_any rfl))))) (j_snil (j_last (j_sRet (j_cmp (j_eCall (j_cons (j_eTup (j_cons (j_var rfl (j_cons (j_un (j_lc (j_iVal (j_var rfl (j_lift fun xs56 => (j_lcP (fun d57 => (j_lcB (j_gNmL [.is scale_so1, .is amount_so2, .is border3, .is r4, .is r6, .is both24, .is (D.lst xs34), .is round_so44, .is whole45, .is rows_46, .is d57] rfl rfl (j_yes (j_ifT (j_op (j_var rfl (j_eTup (j_cons (j_var rfl (j_nil (j_tup (j_lift fun z58 => (j_val (.cons .rfl (.cons .rfl (.cons .rfl (.cons .rfl (.cons .rfl (.cons .rfl (.cons .rfl (.cons .rfl (.cons .rfl (.cons .rfl (.cons .any .nil))))))))))))) (ble rfl))))))))))))) fun xs59 => (j_lift fun z60 => (j_nil (j_tup (j_cons (j_var rfl (j_nil (j_nil (j_call (lk_tax (D.tup [round_so44, z60]) amount_so2) (xok_any rfl) fun r61 => (j_var rfl (j_lift fun z62 => (j_ret' (rt_top rfl (le_any rfl)))))))))) (ble rfl))))))))))))))))))))))))))))))))))))))))))))))))))))))))))))))))))))))))))))))))))))))))))))))))))))))))))))))))))))))))))))))))))))))))) (agr_is (agr_is (agr_is (agr_any (agr_any (agr_any (agr_any (agr_any (agr_any (agr_any (agr_any agr_nil))))))))))) rfl rfl (ble rfl)
def p_law_b3 (d13 : D) (c9 : (D × D)) (c8 : (D × D)) (d23 : D) (b22 : Unit) : Re (Fl Unit (Fl Unit (Fl D D))) :=
  Re.ofO (ixD d13 (D.int 0)) fun z24 => Re.ofO (opMod c9.1 (D.int 7)) fun z25 => Re.ofO (opAdd z24 z25) fun z26 => Re.ofO (opMod c9.1 (D.int 1000)) fun z27 => Re.ofO (ixD d13 (D.int 0)) fun z28 => Re.ofO (opFdiv z28 (D.int 2)) fun z29 => Re.ofO (opFdiv c9.1 (D.int 7)) fun z30 => Re.ofO (opMod z30 (D.int 3)) fun z31 => Re.ofO (ixD (D.lst [z26, z27, z29]) z31) fun border32 => Re.bind (p__law_right c8.1 d23 border32) fun r33 => Re.ofO (asB r33) fun b34 => (if (!b34) = true then .ok (.rt (.rt (.rt (D.bl false)))) else Re.bind (Lv.scales_bracket c8.1 d23) fun r35 => Re.bind (p__law_turned c8.1) fun r36 => Re.bind (Lv.scales_bracket r36 d23) fun r37 => Re.ofO (opNe r35 r37) fun z38 => (if z38 = true then .ok (.rt (.rt (.rt (D.bl false)))) else .ok (.nx ())))
def p_law_b2 (c9 : (D × D)) (c8 : (D × D)) (d13 : D) (b12 : Unit) : Re (Fl Unit (Fl D D)) :=
  Re.ofO (ixD d13 (D.int 0)) fun z14 => Re.ofO (ixD d13 (D.int 0)) fun z15 => Re.ofO (opAdd z15 (D.int 1)) fun z16 => Re.ofO (ixD d13 (D.int 0)) fun z17 => Re.ofO (opMod c9.1 (D.int 500)) fun z18 => Re.ofO (opAdd z17 z18) fun z19 => Re.ofO (opNeg (D.int 3)) fun z20 => Re.ofO (itemsOf (D.tup [z14, z16, z19, c9.1, z20])) fun xs21 => Re.esc (forR (p_law_b3 d13 c9 c8) xs21 ()) fun b39 => .ok (.nx ())
def p_law_b1 (script1 : D) (d7 : D) (b6 : D) : Re (Fl D D) :=
  Re.bind (p__law_scale script1 b6) fun c8 => Re.bind (p__law_cell script1 c8.2) fun c9 => Re.ofO (ixD c8.1 (D.int 1)) fun z10 => Re.ofO (itemsOf z10) fun xs11 => Re.esc (forR (p_law_b2 c9 c8) xs11 ()) fun b40 => .ok (.nx c9.2)
def p_law (script1 : D) : Re D :=
  Re.ofO (irr ((bLen [script1]).map D.v)) fun z2 => Re.ofO ((bMin [(D.int 20), z2]).map D.v) fun z3 => Re.ofO (opAdd (D.int 6) z3) fun z4 => Re.ofO (rngOf [z4]) fun xs5 => Re.esc (forR (p_law_b1 script1) xs5 (D.lst [(D.int 0)])) fun b41 => .ok (D.bl true)
set_option maxHeartbeats 4000000 in
theorem lk_law (script1 : D) : LkV (mf_law [script1]) (p_law script1) :=
  lkv_of (n := 8) (Γ0 := [.is script1, .any, .any, .any, .any, .any, .any, .any]) (j_set (j_eLst (j_cons (j_K (j_nil (j_lst (j_setIL [.is script1, .is (D.lst [(D.int 0)]), .any, .any, .any, .any, .any, .any] rfl rfl (j_for (j_iRng (j_cons (j_op (j_K (j_b (j_cons (j_K (j_cons (j_b (j_cons (j_var rfl (j_nil (j_liftI fun z2 => (j_nil (j_lift fun z3 => (j_lift fun z4 => (j_nil (j_lift fun xs5 => (j_forR (Γh := (fun (b6 : D) => [.is script1, .is b6, .any, .any, .any, .any, .any, .any])) (b := (D.lst [(D.int 0)])) (fun d7 b6 => (j_gNmL [.is script1, .is b6, .is d7, .any, .any, .any, .any, .any] rfl rfl (j_par (j_cons (j_eCallG (j_gVal (j_var rfl (j_gOwn rfl (j_gNil0 (j_callG (Γ' := fun (c8 : (D × D)) => [.is script1, .is c8.2, .is d7, .any, .any, .any, .any, .any]) (lk__law_scale script1 b6) rfl (fun _ => rfl) rfl rfl (xok_any rfl) fun c8 => (j_cons (j_eCallG (j_gVal (j_var rfl (j_gOwn rfl (j_gNil0 (j_callG (Γ' := fun (c9 : (D × D)) => [.is script1, .is c9.2, .is d7, .any, .any, .any, .any, .any]) (lk__law_cell script1 c8.2) rfl (fun _ => rfl) rfl rfl (xok_any rfl) fun c9 => (j_nil (j_setAL [.is script1, .is c9.2, .is d7, .is c8.1, .any, .any, .any, .any] rfl rfl (j_setAL [.is script1, .is c9.2, .is d7, .is c8.1, .is c9.1, .any, .any, .any] rfl rfl (j_setA0 (j_for (j_iVal (j_ix (j_var rfl (j_K (j_lift fun z10 => (j_lift fun xs11 => (j_forR (Γh := (fun (_ : Unit) => [.is script1, .is c9.2, .is d7, .is c8.1, .is c9.1, .any, .any, .any])) (b := ()) (fun d13 b12 => (j_gNmL [.is script1, .is c9.2, .is d7, .is c8.1, .is c9.1, .is d13, .any, .any] rfl rfl (j_for (j_iVal (j_eTup (j_cons (j_ix (j_var rfl (j_K (j_lift fun z14 => (j_cons (j_op (j_ix (j_var rfl (j_K (j_lift fun z15 => (j_K (j_lift fun z16 => (j_cons (j_op (j_ix (j_var rfl (j_K (j_lift fun z17 => (j_op (j_var rfl (j_K (j_lift fun z18 => (j_lift fun z19 => (j_cons (j_var rfl (j_cons (j_un (j_K (j_lift fun z20 => (j_nil (j_tup (j_lift fun xs21 => (j_forR (Γh := (fun (_ : Unit) => [.is script1, .is c9.2, .is d7, .is c8.1, .is c9.1, .is d13, .any, .any])) (b := ()) (fun d23 b22 => (j_gNmL [.is script1, .is c9.2, .is d7, .is c8.1, .is c9.1, .is d13, .is d23, .any] rfl rfl (j_set (j_ix (j_eLst (j_cons (j_op (j_ix (j_var rfl (j_K (j_lift fun z24 => (j_op (j_var rfl (j_K (j_lift fun z25 => (j_lift fun z26 => (j_cons (j_op (j_var rfl (j_K (j_lift fun z27 => (j_cons (j_op (j_ix (j_var rfl (j_K (j_lift fun z28 => (j_K (j_lift fun z29 => (j_nil (j_lst (j_op (j_op (j_var rfl (j_K (j_lift fun z30 => (j_K (j_lift fun z31 => (j_lift fun border32 => (j_setIL [.is script1, .is c9.2, .is d7, .is c8.1, .is c9.1, .is d13, .is d23, .is border32] rfl rfl (j_if (j_tnot (j_tval (j_eCall (j_cons (j_var rfl (j_cons (j_var rfl (j_cons (j_var rfl (j_nil (j_nil (j_call (lk__law_right c8.1 d23 border32) (xok_any rfl) fun r33 => (j_lift fun b34 => (j_ite (j_sRet (j_K (j_ret' (rt_loopR (rt_loopR (rt_loopR (rt_top rfl (le_any rfl)))))))) (j_snil (j_if (j_tcp (j_eCall (j_cons (j_var rfl (j_cons (j_var rfl (j_nil (j_nil (j_call (lk_bracket c8.1 d23) (xok_any rfl) fun r35 => (j_eCall (j_cons (j_eCall (j_cons (j_var rfl (j_nil (j_nil (j_call (lk__law_turned c8.1) (xok_any rfl) fun r36 => (j_cons (j_var rfl (j_nil (j_nil (j_call (lk_bracket r36 d23) (xok_any rfl) fun r37 => (j_lift fun z38 => (j_ite (j_sRet (j_K (j_ret' (rt_loopR (rt_loopR (rt_loopR (rt_top rfl (le_any rfl)))))))) (j_snil (j_end (nx_loopR (.cons .rfl (.cons .rfl (.cons .rfl (.cons .rfl (.cons .rfl (.cons .rfl (.cons .any (.cons .any .nil))))))))))))))))))))))))))))))))))))))))))))))))))))))))))))) (ble rfl)))))))))))))))))))))))))))))))) (.cons .rfl (.cons .rfl (.cons .rfl (.cons .rfl (.cons .rfl (.cons .rfl (.cons .any (.cons .any .nil)))))))) fun b39 => (j_end (nx_loopR (.cons .rfl (.cons .rfl (.cons .rfl (.cons .rfl (.cons .rfl (.cons .any (.cons .any (.cons .any .nil)))))))))))) (ble rfl)))))))))))))))))))))))))))))))))))))) (.cons .rfl (.cons .rfl (.cons .rfl (.cons .rfl (.cons .rfl (.cons .any (.cons .any (.cons .any .nil)))))))) fun b40 => (j_end (nx_loopR (.cons .rfl (.cons .rfl (.cons .any (.cons .any (.cons .any (.cons .any (.cons .any (.cons .any .nil))))))))))))))))))))))))))))))))))))))) (.cons .rfl (.cons .rfl (.cons .any (.cons .any (.cons .any (.cons .any (.cons .any (.cons .any .nil)))))))) fun b41 => (j_last (j_sRet (j_K (j_ret' (rt_top rfl (le_any rfl))))))))))))))))))))))))))) (ble rfl))))))) (agr_is (agr_any (agr_any (agr_any (agr_any (agr_any (agr_any (agr_any agr_nil)))))))) rfl rfl (ble rfl)
end Gk13
/-! Pl: rows for plain functions. -/
namespace DM
open PySem PySem.Spec PyProof.Rows L2
section
variable {α β γ : Type}
@[simp] theorem Re.bind_ret (r : Re α) : (r.bind fun x => .ok x) = r := by cases r <;> rfl
@[simp] theorem forP_nil (B : D → β → Re β) (b : β) : forP B [] b = .ok b := rfl
@[simp] theorem forP_cons (B : D → β → Re β) (d : D) (ds : List D) (b : β) : forP B (d :: ds) b = (B d b).bind (forP B ds) := rfl
@[simp] theorem forR_nil {ω : Type} (B : D → β → Re (Fl β ω)) (b : β) : forR B [] b = .ok (.nx b) := rfl
theorem forR_nx {ω : Type} {B : D → β → Re (Fl β ω)} {d : D} {ds : List D} {b b' : β} (h : B d b = .ok (.nx b')) : forR B (d :: ds) b = forR B ds b' := by
  simp only [forR, h]
theorem forR_all {ω : Type} {B : D → Unit → Re (Fl Unit ω)} : ∀ {ds : List D}, (∀ d ∈ ds, B d () = .ok (.nx ())) → forR B ds () = .ok (.nx ())
  | [], _ => rfl
  | d :: ds, h => by rw [forR_nx (h d List.mem_cons_self)]; exact forR_all fun e he => h e (List.mem_cons_of_mem _ he)
def Sat (r : Re α) (P : α → Prop) : Prop := ∃ a, r = .ok a ∧ P a
theorem Sat.ok {a : α} {P : α → Prop} (h : P a) : Sat (.ok a) P := ⟨a, rfl, h⟩
theorem Sat.bind {r : Re α} {k : α → Re β} {P : α → Prop} {Q : β → Prop} (h : Sat r P) (hk : ∀ a, P a → Sat (k a) Q) : Sat (r.bind k) Q := by
  obtain ⟨a, e, p⟩ := h
  rw [e]; exact hk a p
theorem Sat.ofO {o : Option α} {k : α → Re β} {P : α → Prop} {Q : β → Prop} (h : ∃ a, o = some a ∧ P a) (hk : ∀ a, P a → Sat (k a) Q) : Sat (Re.ofO o k) Q := by
  obtain ⟨a, e, p⟩ := h
  rw [e]; exact hk a p
theorem Sat.imp {r : Re α} {P Q : α → Prop} (h : Sat r P) (k : ∀ a, P a → Q a) : Sat r Q := by
  obtain ⟨a, e, p⟩ := h
  exact ⟨a, e, k a p⟩
theorem Sat.forP {B : D → β → Re β} (Inv : Nat → β → Prop) : ∀ {ds : List D} {i : Nat} {b : β}, Inv i b → (∀ k d b, ds[k]? = some d → Inv (i + k) b → Sat (B d b) (Inv (i + k + 1))) → Sat (DM.forP B ds b) (Inv (i + ds.length))
  | [], i, b, h, _ => ⟨b, rfl, h⟩
  | d :: ds, i, b, h, hs => by
    refine Sat.bind (hs 0 d b rfl h) fun b' h' => ?_
    have := Sat.forP Inv (ds := ds) (i := i + 1) (b := b') h' fun k d b hd hb => by
      have := hs (k + 1) d b (by simpa using hd) (by rw [show i + (k + 1) = i + 1 + k by omega]; exact hb)
      rw [show i + (k + 1) + 1 = i + 1 + k + 1 by omega] at this
      exact this
    rw [List.length_cons, show i + (ds.length + 1) = i + 1 + ds.length by omega]
    exact this
theorem Sat.forR {ω : Type} {B : D → β → Re (Fl β ω)} (Inv : Nat → β → Prop) : ∀ {ds : List D} {i : Nat} {b : β}, Inv i b → (∀ k d b, ds[k]? = some d → Inv (i + k) b → Sat (B d b) fun f => ∃ b', f = .nx b' ∧ Inv (i + k + 1) b') → Sat (DM.forR B ds b) fun f => ∃ b', f = .nx b' ∧ Inv (i + ds.length) b'
  | [], i, b, h, _ => ⟨.nx b, rfl, b, rfl, h⟩
  | d :: ds, i, b, h, hs => by
    obtain ⟨f, e, b', ef, h'⟩ := hs 0 d b rfl h
    subst ef
    rw [forR_nx e]
    have := Sat.forR Inv (ds := ds) (i := i + 1) (b := b') h' fun k d b hd hb => by
      have := hs (k + 1) d b (by simpa using hd) (by rw [show i + (k + 1) = i + 1 + k by omega]; exact hb)
      rw [show i + (k + 1) + 1 = i + 1 + k + 1 by omega] at this
      exact this
    rw [List.length_cons, show i + (ds.length + 1) = i + 1 + ds.length by omega]
    exact this
theorem lc_map {ι : Type} {B : D → Re (Option D)} {c : ι → D} {f : ι → D} {xs : List ι} (hl : xs.length ≤ 16777216) (h : ∀ x ∈ xs, B (c x) = .ok (some (f x))) : lcGo B (xs.map c) = .ok (xs.map f) := by
  unfold lcGo
  rw [if_pos (by simpa using hl)]
  induction xs with
  | nil => rfl
  | cons x xs ih =>
    have e := ih (by simp at hl; omega) fun e he => h e (List.mem_cons_of_mem _ he)
    simp only [List.map_cons, lcR, h x List.mem_cons_self, e]
    rfl
theorem lc_filter {ι : Type} {B : D → Re (Option D)} {c : ι → D} {p : ι → Bool} {f : ι → D} {xs : List ι} (hl : xs.length ≤ 16777216) (h : ∀ x ∈ xs, B (c x) = .ok (if p x = true then some (f x) else none)) : lcGo B (xs.map c) = .ok ((xs.filter p).map f) := by
  unfold lcGo
  rw [if_pos (by simpa using hl)]
  induction xs with
  | nil => rfl
  | cons x xs ih =>
    have e := ih (by simp at hl; omega) fun e he => h e (List.mem_cons_of_mem _ he)
    have e1 := h x List.mem_cons_self
    cases e2 : p x with
    | false => simp only [List.map_cons, lcR, e1, e2, e]; simp [e2]
    | true => simp only [List.map_cons, lcR, e1, e2, e, if_pos]; simp [e2]
end
/-! ### operations -/
def fd (j : Int) : Bool := decide (0 < j) && decide (j.natAbs.log2 < 9000)
@[simp] theorem opMod_l {i j : Int} (h : 0 < j) : opMod (.v (.int i)) (.v (.int j)) = some (.int (i % j)) := if_pos h
theorem opFdiv_l {i j : Int} (h : fd j = true) : opFdiv (.v (.int i)) (.v (.int j)) = some (.int (i / j)) := by
  unfold fd at h
  simp only [Bool.and_eq_true, decide_eq_true_eq] at h
  exact if_pos h
theorem fd_of {j : Int} (h0 : 0 < j) (h1 : j ≤ 2 ^ 8000) : fd j = true := by
  unfold fd
  simp only [Bool.and_eq_true, decide_eq_true_eq]
  refine ⟨h0, ?_⟩
  have h2 : j.natAbs < 2 ^ 8001 := by
    have e : ((2 ^ 8001 : Nat) : Int) = 2 * 2 ^ 8000 := by
      rw [Int.natCast_pow, show (8001 : Nat) = 8000 + 1 from rfl, Int.pow_succ, Int.mul_comm]; rfl
    have e2 : (0 : Int) < 2 ^ 8000 := Int.pow_pos (by decide)
    omega
  have := (Nat.log2_lt (by omega : j.natAbs ≠ 0)).mpr h2
  omega
@[simp] theorem sIx_two (a b : D) : ixD (.lst [a, b]) (.v (.int 0)) = some a := rfl
@[simp] theorem ix_t0 (a : D) (ds : List D) : ixD (.tup (a :: ds)) (.v (.int 0)) = some a := by simp [ixD, atI, ixN]
@[simp] theorem ix_l0 (a : D) (ds : List D) : ixD (.lst (a :: ds)) (.v (.int 0)) = some a := by simp [ixD, atI, ixN]
@[simp] theorem ix_t1 (a b : D) (ds : List D) : ixD (.tup (a :: b :: ds)) (.v (.int 1)) = some b := by
  have e : ixN (a :: b :: ds).length 1 = some 1 := by unfold ixN; simp; omega
  simp only [ixD, atI, e]; rfl
@[simp] theorem ix_t2 (a b c : D) (ds : List D) : ixD (.tup (a :: b :: c :: ds)) (.v (.int 2)) = some c := by
  have e : ixN (a :: b :: c :: ds).length 2 = some 2 := by unfold ixN; simp; omega
  simp only [ixD, atI, e]; rfl
@[simp] theorem itemsOf_l (xs : List D) : itemsOf (.lst xs) = some xs := rfl
@[simp] theorem itemsOf_t (xs : List D) : itemsOf (.tup xs) = some xs := rfl
@[simp] theorem tupD_l (xs : List D) : tupD (.lst xs) = some (.tup xs) := rfl
@[simp] theorem bLen_l (xs : List D) : bLen [.lst xs] = some (.int xs.length) := rfl
@[simp] theorem bLen_t (xs : List D) : bLen [.tup xs] = some (.int xs.length) := rfl
@[simp] theorem bLen_s (xs : List Int) : bLen [.scr xs] = some (.int xs.length) := rfl
@[simp] theorem bMin_i (i j : Int) : bMin [.v (.int i), .v (.int j)] = some (.int (if j < i then j else i)) := rfl
@[simp] theorem bMax_i (i j : Int) : bMax [.v (.int i), .v (.int j)] = some (.int (if i < j then j else i)) := rfl
theorem ix_mod {ds : List D} {i n : Int} (hn : n = ds.length) (h : 0 < n) : ∃ d, ixD (.lst ds) (.v (.int (i % n))) = some d ∧ d ∈ ds := by
  obtain ⟨d, h1, h2⟩ := ix_lst (ds := ds) (i := i) n hn h
  exact ⟨d, h2, h1⟩
end DM
/-! Pr: repr of data. -/
namespace DM
open PySem PySem.Spec PyProof.Rows L2
/-- data of at most so much weight and depth, whose repr is no trouble -/
structure Rk (n k : Nat) (d : D) : Prop where
  ok : rok d = true
  w : d.py.weight ≤ n
  dp : d.py.depth ≤ k
theorem Rk.mono {n k n' k' : Nat} {d : D} (h : Rk n k d) (h1 : n ≤ n') (h2 : k ≤ k') : Rk n' k' d := ⟨h.ok, by have := h.w; omega, by have := h.dp; omega⟩
theorem Rk.repr {n k : Nat} {d : D} (h : Rk n k d) (hn : n ≤ 20000) (hk : k ≤ 60) : bRepr [d] = some (.str d.py.shown) :=
  repr_ok h.ok (Nat.le_trans h.w hn) (Nat.le_trans h.dp hk)
/-- data that == may look at -/
structure Dz (k : Nat) (d : D) : Prop where
  p : d.plain = true
  c : d.py.canLay0 = true
  dp : d.py.depth ≤ k
theorem dz_int (i : Int) : Dz 0 (.int i) := ⟨rfl, by simp [D.py, PyData.canLay0], Nat.le_refl _⟩
theorem dz_all {k : Nat} : ∀ {xs : List D}, (∀ x ∈ xs, Dz k x) → plainAll xs = true ∧ PyData.canLayAll0 (pyAll xs) = true ∧ PyData.depthAll (pyAll xs) ≤ k
  | [], _ => ⟨rfl, by simp [pyAll, PyData.canLayAll0], Nat.zero_le _⟩
  | x :: xs, h => by
    obtain ⟨a, b, c⟩ := dz_all fun y hy => h y (List.mem_cons_of_mem _ hy)
    have hx := h x List.mem_cons_self
    refine ⟨?_, ?_, ?_⟩
    · show (x.plain && plainAll xs) = true
      rw [hx.p, a]; rfl
    · simp only [pyAll, PyData.canLayAll0, hx.c, b]; rfl
    · show Nat.max x.py.depth (PyData.depthAll (pyAll xs)) ≤ k
      exact Nat.max_le.mpr ⟨hx.dp, c⟩
theorem dz_tup {k : Nat} {xs : List D} (h : ∀ x ∈ xs, Dz k x) : Dz (k + 1) (.tup xs) := by
  obtain ⟨a, b, c⟩ := dz_all h
  exact ⟨a, by simpa only [D.py, PyData.canLay0] using b, Nat.succ_le_succ c⟩
theorem Dz.mono {k k' : Nat} {d : D} (h : Dz k d) (hk : k ≤ k') : Dz k' d := ⟨h.p, h.c, Nat.le_trans h.dp hk⟩
theorem Dz.shp {k : Nat} {d : D} (h : Dz k d) (hk : k ≤ 64) : shp d = true := by
  unfold DM.shp SeqAt.shaped
  rw [h.p, h.c, decide_eq_true (Nat.le_trans h.dp hk)]; rfl
theorem eq_nil {k : Nat} {xs : List D} (h : ∀ x ∈ xs, Dz k x) (hk : k ≤ 63) : opEq (.lst xs) (.lst []) = some xs.isEmpty := eqL_nil xs
end DM
/-! Pn: what the small defs of the program tell. -/
namespace Lv
open PySem PySem.Spec PyProof.Rows L2 DM
@[simp] theorem whole_i (i : Int) : amounts_is_whole (.v (.int i)) = .ok (.bl true) := rfl
@[simp] theorem from_to_i (i a b : Int) : amounts_is_from_to (.v (.int i)) (.v (.int a)) (.v (.int b)) = .ok (.bl (decide (a ≤ i) && decide (i ≤ b))) := by
  unfold amounts_is_from_to
  by_cases h1 : a ≤ i
  · simp [h1]
  · simp [h1]
@[simp] theorem tuple_of_t (xs : List D) (a b : Int) : amounts_is_tuple_of (.tup xs) (.v (.int a)) (.v (.int b)) = .ok (.bl (decide (a ≤ xs.length) && decide ((xs.length : Int) ≤ b))) := by
  have e : bIsi [.tup xs, .v (.ty "tuple")] = some (.bl true) := rfl
  unfold amounts_is_tuple_of
  by_cases h1 : a ≤ xs.length
  · simp [e, h1]
  · simp [e, h1]
@[simp] theorem rate_i (t b : Int) : amounts_is_rate (.v (.int t)) (.v (.int b)) = .ok (.bl (decide (-1000 ≤ t) && decide (t ≤ 1000) && (decide (1 ≤ b) && decide (b ≤ 1000)))) := by
  unfold amounts_is_rate
  cases h : (decide (-1000 ≤ t) && decide (t ≤ 1000)) <;> simp [h]
def wDown : Str := "down"
def wUp : Str := "up"
def wNear : Str := "near"
def isW (w : Str) : Prop := w = wDown ∨ w = wUp ∨ w = wNear
theorem round_w {w : Str} (h : isW w) : amounts_is_round (.v (.str w)) = .ok (.bl true) := by
  have e1 : opIn (.v (.str wDown)) (.tup [.str "down", .str "up", .str "near"]) = some true := by decide +kernel
  have e2 : opIn (.v (.str wUp)) (.tup [.str "down", .str "up", .str "near"]) = some true := by decide +kernel
  have e3 : opIn (.v (.str wNear)) (.tup [.str "down", .str "up", .str "near"]) = some true := by decide +kernel
  have b : ∀ w : Str, bIsi [.v (.str w), .v (.ty "str")] = some (.bl true) := fun _ => rfl
  rcases h with rfl | rfl | rfl
  · simp [amounts_is_round, b, e1]
  · simp [amounts_is_round, b, e2]
  · simp [amounts_is_round, b, e3]
def rnd (w : Str) (t b : Int) : Int := if w = wDown then t / b else if w = wUp then -(-t / b) else (2 * t + b) / (2 * b)
theorem rounded_i {w : Str} (hw : isW w) {t b : Int} (hb : 0 < b) (hb2 : 2 * b ≤ 2 ^ 8000) (ht : small t = true) (hs : small b = true) : amounts_rounded (.v (.int t)) (.v (.int b)) (.v (.str w)) = .ok (.int (rnd w t b)) := by
  have f1 : ∀ i, opFdiv (.v (.int i)) (.v (.int b)) = some (.int (i / b)) := fun i => opFdiv_l (fd_of hb (by omega))
  have f2 : ∀ i, opFdiv (.v (.int i)) (.v (.int (2 * b))) = some (.int (i / (2 * b))) := fun i => opFdiv_l (fd_of (by omega) hb2)
  have s2 : small 2 = true := by decide +kernel
  have m1 : opMul (.v (.int 2)) (.v (.int t)) = some (.int (2 * t)) := opMul_ii s2 ht
  have m2 : opMul (.v (.int 2)) (.v (.int b)) = some (.int (2 * b)) := opMul_ii s2 hs
  have n1 : ¬ wUp = wDown := by decide
  have n2 : ¬ wNear = wDown := by decide
  have n3 : ¬ wNear = wUp := by decide
  unfold amounts_rounded
  show Re.ofO (some (decide (w = wDown))) _ = _
  rcases hw with rfl | rfl | rfl
  · simp [f1, rnd]
  · rw [decide_eq_false n1]
    have e : opEq (.v (.str wUp)) (.v (.str "up")) = some true := by decide +kernel
    simp [f1, rnd, e, n1]
  · rw [decide_eq_false n2]
    have e : opEq (.v (.str wNear)) (.v (.str "up")) = some false := by decide +kernel
    simp [f1, f2, m1, m2, rnd, e, n2, n3]
end Lv
/-! Ps: scales. -/
namespace Lv
open PySem PySem.Spec PyProof.Rows L2 DM
abbrev SRow := Int × Int × Int
def rowD (r : SRow) : D := .tup [.int r.1, .int r.2.1, .int r.2.2]
def scD (w : Str) (rs : List SRow) : D := .tup [.str w, .tup (rs.map rowD)]
structure OkR (rs : List SRow) : Prop where
  len : rs.length ≤ 8
  b0 : ∃ r t, rs = r :: t ∧ r.1 = 0
  inc : rs.Pairwise fun a b => a.1 < b.1
  rng : ∀ r ∈ rs, 0 ≤ r.1 ∧ r.1 ≤ 1000000000000 ∧ -1000 ≤ r.2.1 ∧ r.2.1 ≤ 1000 ∧ 1 ≤ r.2.2 ∧ r.2.2 ≤ 1000
theorem cut1 {α : Type} (ds : List α) : cutL ds (some 1) none = ds.tail := by
  unfold cutL
  rw [show HT.sIx ds.length 0 (some 1) = min 1 ds.length from HT.sIx_nat _ _ 1, HT.sIx_none]
  cases ds with
  | nil => rfl
  | cons d ds =>
    have : min 1 (d :: ds).length = 1 := by simp
    rw [this]
    simp
@[simp] theorem slX1_l (ds : List D) : slX (.lst ds) (some 1) none = some (.lst ds.tail) := by
  show some (D.lst (cutL ds (some 1) none)) = _
  rw [cut1]
@[simp] theorem slX1_t (ds : List D) : slX (.tup ds) (some 1) none = some (.tup ds.tail) := by
  show some (D.tup (cutL ds (some 1) none)) = _
  rw [cut1]
theorem all_bl {α : Type} (g : α → Bool) (xs : List α) : bAll [.lst (xs.map fun c => D.bl (g c))] = some (.bl (xs.all g)) := by
  show (asBs _).map _ = _
  rw [DM.asBs_map]
  simp [List.all_map]
  try rfl
theorem all_true' {ds : List D} (h : ∀ d ∈ ds, d = .bl true) : bAll [.lst ds] = some (.bl true) := by
  have e : ds = ds.map fun _ => D.bl true := by
    induction ds with
    | nil => rfl
    | cons d ds ih => rw [List.map_cons, ← ih fun e he => h e (List.mem_cons_of_mem _ he), h d List.mem_cons_self]
  rw [e, all_bl (fun _ => true)]
  simp
theorem pairs_zip {α : Type} {R : α → α → Prop} : ∀ {xs : List α}, xs.Pairwise R → ∀ p ∈ xs.zip xs.tail, R p.1 p.2
  | [], _, p, h => by simp at h
  | [x], _, p, h => by simp at h
  | x :: y :: xs, hp, p, h => by
    cases hp with
    | cons h1 h2 =>
      simp only [List.tail_cons, List.zip_cons_cons, List.mem_cons] at h
      rcases h with e | e
      · subst e; exact h1 y List.mem_cons_self
      · exact pairs_zip h2 p (by simpa using e)
theorem row_ok {r : SRow} (h : 0 ≤ r.1 ∧ r.1 ≤ 1000000000000 ∧ -1000 ≤ r.2.1 ∧ r.2.1 ≤ 1000 ∧ 1 ≤ r.2.2 ∧ r.2.2 ≤ 1000) : scales_is_scale_b1 (rowD r) () = .ok (.nx ()) := by
  obtain ⟨h1, h2, h3, h4, h5, h6⟩ := h
  simp [scales_is_scale_b1, rowD, h1, h2, h3, h4, h5, h6]
theorem is_scale_ok {w : Str} {rs : List SRow} (hw : isW w) (h : OkR rs) : scales_is_scale (scD w rs) = .ok (.bl true) := by
  obtain ⟨r, t, e, h0⟩ := h.b0
  have hl := h.len
  have lp : forR scales_is_scale_b1 (rs.map rowD) () = .ok (.nx ()) := forR_all fun d hd => by
    obtain ⟨r, hr, rfl⟩ := List.mem_map.mp hd
    exact row_ok (h.rng r hr)
  have lc : lcGo scales_is_scale_l2 (rs.map rowD) = .ok (rs.map fun r => D.int r.1) := lc_map (by omega) fun r _ => by simp [scales_is_scale_l2, rowD]
  have lz : zipB false [.lst (rs.map fun r => D.int r.1), .lst (rs.map fun r => D.int r.1).tail] = some ((rs.zip rs.tail).map fun p => .tup [.int p.1.1, .int p.2.1]) := by
    show some _ = _
    refine congrArg some ?_
    rw [List.map_tail.symm, List.zip_map, List.map_map]
    rfl
  have lc3 : lcGo scales_is_scale_l3 ((rs.zip rs.tail).map fun p => .tup [.int p.1.1, .int p.2.1]) = .ok ((rs.zip rs.tail).map fun _ => D.bl true) := lc_map (by simp; omega) fun p hp => by
    have := pairs_zip h.inc p hp
    simp [scales_is_scale_l3, this]
  have ba : bAll [.lst ((rs.zip rs.tail).map fun _ => D.bl true)] = some (.bl true) := all_true' fun d hd => by
    obtain ⟨_, _, rfl⟩ := List.mem_map.mp hd; rfl
  have l1 : (1 : Int) ≤ rs.length := by rw [e]; simp; omega
  have l2 : (rs.length : Int) ≤ 8 := by omega
  have e0 : ixD (.lst (rs.map fun r => D.int r.1)) (.v (.int 0)) = some (.int 0) := by rw [e]; simp [h0]
  have rw' := round_w hw
  simp only [scD]
  generalize hA : rs.map rowD = A at *
  generalize hB : (rs.map fun r => D.int r.1) = B at *
  have lA : A.length = rs.length := by rw [← hA]; simp
  simp [scales_is_scale, rw', lA, l1, l2, lp, lc, e0, lz, lc3, ba]
theorem need_scale_ok {w : Str} {rs : List SRow} (hw : isW w) (h : OkR rs) : scales_need_scale (scD w rs) = .ok .non := by
  simp [scales_need_scale, is_scale_ok hw h]
theorem common_loop : ∀ (n a b : Nat), b < n → whP scales_common_number_c1 scales_common_number_b1 n (.int a, .int b) = .ok (.int (Nat.gcd a b), .int 0)
  | 0, _, _, h => by omega
  | n + 1, a, b, h => by
    by_cases hb : b = 0
    · subst hb
      simp [whP, scales_common_number_c1]
    · have hm : a % b < n := by have := Nat.mod_lt a (Nat.pos_of_ne_zero hb); omega
      have ih := common_loop n b (a % b) hm
      have hbi : (0 : Int) < b := by omega
      have hbn : ¬ ((b : Int) = 0) := by omega
      have e : ((a : Int) % b) = ((a % b : Nat) : Int) := by simp
      have eg : Nat.gcd b (a % b) = Nat.gcd a b := by rw [Nat.gcd_comm a b, Nat.gcd_rec b a, Nat.gcd_comm]
      rw [eg] at ih
      simp only [whP, scales_common_number_c1, scales_common_number_b1]
      have hb0 : 0 < b := Nat.pos_of_ne_zero hb
      have em : opMod (.v (.int a)) (.v (.int b)) = some (.int ((a % b : Nat) : Int)) := by rw [opMod_l hbi, e]
      rw [← e] at ih em
      simp [hb, em, ih]
theorem common_ok (a b : Nat) (h : b ≤ 1000) : scales_common_number (.int a) (.int b) = .ok (.int (Nat.gcd a b)) := by
  simp [scales_common_number, common_loop 1000000 a b (by omega)]
def lcmR (rs : List SRow) : Nat := rs.foldl (fun w r => Nat.lcm w r.2.2.toNat) 1
theorem lcm_up : ∀ (rs : List SRow) (w : Nat), (∀ r ∈ rs, 1 ≤ r.2.2 ∧ r.2.2 ≤ 1000) → 0 < w → 0 < rs.foldl (fun w r => Nat.lcm w r.2.2.toNat) w ∧ rs.foldl (fun w r => Nat.lcm w r.2.2.toNat) w ≤ w * 1000 ^ rs.length ∧ w ∣ rs.foldl (fun w r => Nat.lcm w r.2.2.toNat) w ∧ (∀ r ∈ rs, r.2.2.toNat ∣ rs.foldl (fun w r => Nat.lcm w r.2.2.toNat) w) ∧ ∀ m, w ∣ m → (∀ r ∈ rs, r.2.2.toNat ∣ m) → rs.foldl (fun w r => Nat.lcm w r.2.2.toNat) w ∣ m
  | [], w, _, hw => ⟨hw, by simp, Nat.dvd_refl _, (fun r h => nomatch h), fun m h _ => h⟩
  | r :: rs, w, h, hw => by
    have hr := h r List.mem_cons_self
    have hl : 0 < Nat.lcm w r.2.2.toNat := Nat.lcm_pos hw (by omega)
    have hle : Nat.lcm w r.2.2.toNat ≤ w * 1000 := Nat.le_trans (Nat.div_le_self _ _) (Nat.mul_le_mul_left w (by omega))
    obtain ⟨a, b, c, d, e⟩ := lcm_up rs (Nat.lcm w r.2.2.toNat) (fun q hq => h q (List.mem_cons_of_mem _ hq)) hl
    refine ⟨a, ?_, Nat.dvd_trans (Nat.dvd_lcm_left _ _) c, fun q hq => ?_, fun m h1 h2 => e m (Nat.lcm_dvd h1 (h2 r List.mem_cons_self)) fun q hq => h2 q (List.mem_cons_of_mem _ hq)⟩
    · rw [List.length_cons, Nat.pow_succ, Nat.mul_comm (1000 ^ rs.length) 1000, ← Nat.mul_assoc]
      exact Nat.le_trans b (Nat.mul_le_mul_right _ hle)
    · rcases List.mem_cons.mp hq with rfl | hq
      · exact Nat.dvd_trans (Nat.dvd_lcm_right _ _) c
      · exact d q hq
theorem lcm_loop : ∀ (rs : List SRow) (w : Nat), (∀ r ∈ rs, 1 ≤ r.2.2 ∧ r.2.2 ≤ 1000) → 0 < w → w * 1000 ^ rs.length ≤ 10 ^ 24 → forP scales_own_together_b1 (rs.map rowD) (.int w) = .ok (.int (rs.foldl (fun w r => Nat.lcm w r.2.2.toNat) w : Nat))
  | [], w, _, _, _ => rfl
  | r :: rs, w, h, hw, hb => by
    have hr := h r List.mem_cons_self
    have hl : 0 < Nat.lcm w r.2.2.toNat := Nat.lcm_pos hw (by omega)
    have hle : Nat.lcm w r.2.2.toNat ≤ w * 1000 := Nat.le_trans (Nat.div_le_self _ _) (Nat.mul_le_mul_left w (by omega))
    have p1 : 1 ≤ 1000 ^ rs.length := Nat.one_le_pow _ _ (by decide)
    rw [List.length_cons, Nat.pow_succ, Nat.mul_comm (1000 ^ rs.length) 1000, ← Nat.mul_assoc] at hb
    have ih := lcm_loop rs (Nat.lcm w r.2.2.toNat) (fun q hq => h q (List.mem_cons_of_mem _ hq)) hl (Nat.le_trans (Nat.mul_le_mul_right _ hle) hb)
    have hw2 : w * 1000 ≤ 10 ^ 24 := Nat.le_trans (Nat.le_mul_of_pos_right _ (by omega)) hb
    have e1 : ((r.2.2.toNat : Nat) : Int) = r.2.2 := Int.toNat_of_nonneg (by omega)
    have cm := common_ok w r.2.2.toNat (by omega)
    rw [e1] at cm
    have m1 : opMul (.v (.int w)) (.v (.int r.2.2)) = some (.int (w * r.2.2)) := opMul_ii (small_b (by omega) (by omega)) (small_b (by omega) (by omega))
    have hg : 0 < Nat.gcd w r.2.2.toNat := Nat.gcd_pos_of_pos_left _ hw
    have hg2 : Nat.gcd w r.2.2.toNat ≤ w := Nat.gcd_le_left _ hw
    have f1 : opFdiv (.v (.int (w * r.2.2))) (.v (.int (Nat.gcd w r.2.2.toNat))) = some (.int (Nat.lcm w r.2.2.toNat : Nat)) := by
      rw [opFdiv_l (fd_of (by omega) (by
        have : ((Nat.gcd w r.2.2.toNat : Nat) : Int) ≤ 10 ^ 24 := by omega
        exact Int.le_trans this (by decide +kernel)))]
      rw [Nat.lcm, ← e1]
      simp
    simp only [List.map_cons, forP_cons, List.foldl_cons]
    have e2 : rowD r = .tup [.int r.1, .int r.2.1, .int r.2.2] := rfl
    simp only [scales_own_together_b1, e2, un3_t, m1, cm, f1, Re.ofO_some, Re.bind_ok]
    exact ih
def rtD (L : Nat) (r : SRow) : D := .tup [.int r.1, .int (r.2.1 * ((L : Int) / r.2.2))]
structure LOk (rs : List SRow) : Prop where
  pos : 0 < lcmR rs
  le : lcmR rs ≤ 10 ^ 24
  dvd : ∀ r ∈ rs, r.2.2 ∣ (lcmR rs : Int)
  least : ∀ m : Nat, (∀ r ∈ rs, r.2.2.toNat ∣ m) → lcmR rs ∣ m
theorem OkR.l {rs : List SRow} (h : OkR rs) : LOk rs := by
  obtain ⟨a, b, c, d, e⟩ := lcm_up rs 1 (fun r hr => ⟨(h.rng r hr).2.2.2.2.1, (h.rng r hr).2.2.2.2.2⟩) (by decide)
  refine ⟨a, Nat.le_trans b ?_, fun r hr => ?_, fun m hm => e m (Nat.one_dvd _) hm⟩
  · rw [Nat.one_mul]
    exact Nat.le_trans (Nat.pow_le_pow_right (by decide) h.len) (by decide +kernel)
  · have := d r hr
    have e1 : ((r.2.2.toNat : Nat) : Int) = r.2.2 := Int.toNat_of_nonneg (by have := (h.rng r hr).2.2.2.2.1; omega)
    rw [← e1]
    exact Int.natCast_dvd_natCast.mpr this
theorem own_together_ok {w : Str} {rs : List SRow} (h : OkR rs) : scales_own_together (scD w rs) = .ok (.tup [.str w, .int (lcmR rs : Nat), .tup (rs.map (rtD (lcmR rs)))]) := by
  have hl := h.len
  have L := h.l
  have lp := lcm_loop rs 1 (fun r hr => ⟨(h.rng r hr).2.2.2.2.1, (h.rng r hr).2.2.2.2.2⟩) (by decide) (by
    rw [Nat.one_mul]; exact Nat.le_trans (Nat.pow_le_pow_right (by decide) hl) (by decide +kernel))
  have lc : lcGo (scales_own_together_l2 (.int (lcmR rs : Nat))) (rs.map rowD) = .ok (rs.map (rtD (lcmR rs))) := lc_map (by omega) fun r hr => by
    have hr' := h.rng r hr
    have f1 : opFdiv (.v (.int (lcmR rs : Nat))) (.v (.int r.2.2)) = some (.int ((lcmR rs : Int) / r.2.2)) := opFdiv_l (fd_of (by omega) (Int.le_trans hr'.2.2.2.2.2 (by decide +kernel)))
    have b1 : (lcmR rs : Int) / r.2.2 ≤ lcmR rs := Int.ediv_le_self _ (by omega)
    have b0 : 0 ≤ (lcmR rs : Int) / r.2.2 := Int.ediv_nonneg (by omega) (by omega)
    have hle := L.le
    have m1 : opMul (.v (.int r.2.1)) (.v (.int ((lcmR rs : Int) / r.2.2))) = some (.int (r.2.1 * ((lcmR rs : Int) / r.2.2))) := opMul_ii (small_b (by omega) (by omega)) (small_b (by omega) (by omega))
    simp only [scales_own_together_l2, rowD, un3_t, f1, m1, Re.ofO_some]
    rfl
  simp only [scales_own_together, scD, un2_t, itemsOf_t, Re.ofO_some]
  have e : (1 : Int) = ((1 : Nat) : Int) := rfl
  rw [show D.int 1 = D.int ((1 : Nat) : Int) from rfl, lp]
  simp only [Re.bind_ok]
  rw [show rs.foldl (fun w r => Nat.lcm w r.2.2.toNat) 1 = lcmR rs from rfl, lc]
  simp
end Lv
/-! Pt: taxes. -/
namespace Lv
open PySem PySem.Spec PyProof.Rows L2 DM
def nextB (a : Int) : List SRow → Int
  | [] => a
  | s :: _ => if s.1 < a then s.1 else a
def ttot (a : Int) (c : SRow → Int) : List SRow → Int
  | [] => 0
  | r :: rs => (if r.1 < a then (nextB a rs - r.1) * c r else 0) + ttot a c rs
theorem ttot_mul (a k : Int) (c d : SRow → Int) : ∀ rs : List SRow, (∀ r ∈ rs, d r = k * c r) → ttot a d rs = k * ttot a c rs
  | [], _ => by simp [ttot]
  | r :: rs, h => by
    have ih := ttot_mul a k c d rs fun q hq => h q (List.mem_cons_of_mem _ hq)
    unfold ttot
    rw [ih, h r List.mem_cons_self, Int.mul_add]
    congr 1
    split
    · generalize (_ - r.1 : Int) = z
      rw [← Int.mul_assoc, ← Int.mul_assoc, Int.mul_comm z k]
    · simp
theorem mul_abs_le {x y X Y : Int} (hx : -X ≤ x ∧ x ≤ X) (hy : -Y ≤ y ∧ y ≤ Y) : -(X * Y) ≤ x * y ∧ x * y ≤ X * Y := by
  have h : (x * y).natAbs ≤ (X * Y).natAbs := by
    rw [Int.natAbs_mul, Int.natAbs_mul]
    exact Nat.mul_le_mul (by omega) (by omega)
  have p : 0 ≤ X * Y := Int.mul_nonneg (by omega) (by omega)
  omega
theorem ttot_b {a A Cb : Int} {c : SRow → Int} (ha : -A ≤ a ∧ a ≤ A) (hA : 0 ≤ A) (hC : 0 ≤ Cb) : ∀ rs : List SRow, (∀ r ∈ rs, 0 ≤ r.1 ∧ r.1 ≤ 1000000000000 ∧ -Cb ≤ c r ∧ c r ≤ Cb) → -(rs.length * ((A + 1000000000000) * Cb)) ≤ ttot a c rs ∧ ttot a c rs ≤ rs.length * ((A + 1000000000000) * Cb)
  | [], _ => by simp [ttot]
  | r :: rs, h => by
    have ih := ttot_b ha hA hC rs fun q hq => h q (List.mem_cons_of_mem _ hq)
    have hr := h r List.mem_cons_self
    have e : (((r :: rs).length : Nat) : Int) * ((A + 1000000000000) * Cb) = rs.length * ((A + 1000000000000) * Cb) + (A + 1000000000000) * Cb := by
      rw [List.length_cons, Int.natCast_add, Int.add_mul]; simp
    rw [e]
    have p : 0 ≤ (A + 1000000000000) * Cb := Int.mul_nonneg (by omega) hC
    unfold ttot
    split
    · have hm : -(A + 1000000000000) ≤ nextB a rs - r.1 ∧ nextB a rs - r.1 ≤ A + 1000000000000 := by
        cases rs with
        | nil => show -(A + 1000000000000) ≤ a - r.1 ∧ a - r.1 ≤ A + 1000000000000; omega
        | cons s rs =>
          have hs := h s (List.mem_cons_of_mem _ List.mem_cons_self)
          show -(A + 1000000000000) ≤ (if s.1 < a then s.1 else a) - r.1 ∧ (if s.1 < a then s.1 else a) - r.1 ≤ A + 1000000000000
          split <;> omega
      have q := mul_abs_le hm hr.2.2
      omega
    · omega
theorem opIadd_i (i j : Int) : opIadd (.v (.int i)) (.v (.int j)) = some (.int (i + j)) := rfl
theorem tax_loop {a : Int} {L : Nat} (hL : (L : Int) ≤ 10 ^ 24) (ha : -(10 ^ 50) ≤ a ∧ a ≤ 10 ^ 50) : ∀ (rs : List SRow) (t : Int), rs ≠ [] → (∀ r ∈ rs, 0 ≤ r.1 ∧ r.1 ≤ 1000000000000 ∧ -1000 ≤ r.2.1 ∧ r.2.1 ≤ 1000 ∧ 1 ≤ r.2.2 ∧ r.2.2 ≤ 1000) →
    forP (scales_own_tax_b2 (.int a)) (((rs.map (rtD L)).zip (rs.tail.map (fun r => D.int r.1) ++ [D.int a])).map DM.pairD) (.int t) = .ok (.int (t + ttot a (fun r => r.2.1 * ((L : Int) / r.2.2)) rs))
  | [], _, h, _ => absurd rfl h
  | [r], t, _, h => by
    have hr := h r List.mem_cons_self
    have b1 : (L : Int) / r.2.2 ≤ L := Int.ediv_le_self _ (by omega)
    have b0 : 0 ≤ (L : Int) / r.2.2 := Int.ediv_nonneg (by omega) (by omega)
    have q := mul_abs_le (x := r.2.1) (X := 1000) (y := (L : Int) / r.2.2) (Y := 10 ^ 24) (by omega) (by omega)
    have m : opMul (.v (.int (a - r.1))) (.v (.int (r.2.1 * ((L : Int) / r.2.2)))) = some (.int ((a - r.1) * (r.2.1 * ((L : Int) / r.2.2)))) := opMul_ii (small_b (by omega) (by omega)) (small_b (by omega) (by omega))
    by_cases g : r.1 < a
    · simp [ttot, nextB, g, scales_own_tax_b2, DM.pairD, rtD, m, opIadd_i]
    · simp [ttot, g, scales_own_tax_b2, DM.pairD, rtD]
  | r :: s :: rs, t, _, h => by
    have hr := h r List.mem_cons_self
    have hs := h s (List.mem_cons_of_mem _ List.mem_cons_self)
    have b1 : (L : Int) / r.2.2 ≤ L := Int.ediv_le_self _ (by omega)
    have b0 : 0 ≤ (L : Int) / r.2.2 := Int.ediv_nonneg (by omega) (by omega)
    have q := mul_abs_le (x := r.2.1) (X := 1000) (y := (L : Int) / r.2.2) (Y := 10 ^ 24) (by omega) (by omega)
    have ih := fun t => tax_loop hL ha (s :: rs) t (by simp) fun q hq => h q (List.mem_cons_of_mem _ hq)
    have hm : -(10 ^ 55) ≤ (if s.1 < a then s.1 else a) - r.1 ∧ (if s.1 < a then s.1 else a) - r.1 ≤ 10 ^ 55 := by split <;> omega
    have m : opMul (.v (.int ((if s.1 < a then s.1 else a) - r.1))) (.v (.int (r.2.1 * ((L : Int) / r.2.2)))) = some (.int (((if s.1 < a then s.1 else a) - r.1) * (r.2.1 * ((L : Int) / r.2.2)))) := opMul_ii (small_b (by omega) (by omega)) (small_b (by omega) (by omega))
    simp only [List.tail_cons, List.map_cons, List.cons_append, List.zip_cons_cons, forP_cons] at ih ⊢
    generalize hz : (if s.1 < a then s.1 else a) = z at *
    have e1 : DM.pairD (rtD L r, D.int s.1) = .tup [.tup [.int r.1, .int (r.2.1 * ((L : Int) / r.2.2))], .int s.1] := rfl
    have e2 : bMin [.v (.int a), .v (.int s.1)] = some (.int z) := by rw [bMin_i, hz]
    have e3 : ∀ c, ttot a c (r :: s :: rs) = (if r.1 < a then (z - r.1) * c r else 0) + ttot a c (s :: rs) := fun c => by rw [← hz]; rfl
    rw [e1, e3]
    by_cases g : r.1 < a
    · have e4 : scales_own_tax_b2 (.int a) (.tup [.tup [.int r.1, .int (r.2.1 * ((L : Int) / r.2.2))], .int s.1]) (.int t) = .ok (.int (t + (z - r.1) * (r.2.1 * ((L : Int) / r.2.2)))) := by
        simp [scales_own_tax_b2, g, e2, m, opIadd_i]
      rw [e4, Re.bind_ok, ih, if_pos g, Int.add_assoc]
    · have e4 : scales_own_tax_b2 (.int a) (.tup [.tup [.int r.1, .int (r.2.1 * ((L : Int) / r.2.2))], .int s.1]) (.int t) = .ok (.int t) := by
        simp [scales_own_tax_b2, g]
      rw [e4, Re.bind_ok, ih, if_neg g]
      simp
def taxV (w : Str) (rs : List SRow) (a : Int) : Int := if a ≤ 0 then 0 else rnd w (ttot a (fun r => r.2.1 * ((lcmR rs : Int) / r.2.2)) rs) (lcmR rs)
theorem rate_b {rs : List SRow} (h : OkR rs) : ∀ r ∈ rs, 0 ≤ r.1 ∧ r.1 ≤ 1000000000000 ∧ -(10 ^ 27) ≤ r.2.1 * ((lcmR rs : Int) / r.2.2) ∧ r.2.1 * ((lcmR rs : Int) / r.2.2) ≤ 10 ^ 27 := fun r hr => by
  have hr := h.rng r hr
  have L := h.l.le
  have b1 : (lcmR rs : Int) / r.2.2 ≤ lcmR rs := Int.ediv_le_self _ (by omega)
  have b0 : 0 ≤ (lcmR rs : Int) / r.2.2 := Int.ediv_nonneg (by omega) (by omega)
  have q := mul_abs_le (x := r.2.1) (X := 1000) (y := (lcmR rs : Int) / r.2.2) (Y := 10 ^ 24) (by omega) (by omega)
  omega
theorem tot_b {rs : List SRow} (h : OkR rs) {a : Int} (ha : -(10 ^ 50) ≤ a ∧ a ≤ 10 ^ 50) : -(10 ^ 80) ≤ ttot a (fun r => r.2.1 * ((lcmR rs : Int) / r.2.2)) rs ∧ ttot a (fun r => r.2.1 * ((lcmR rs : Int) / r.2.2)) rs ≤ 10 ^ 80 := by
  have b := ttot_b (A := 10 ^ 50) (Cb := 10 ^ 27) ha (by decide) (by decide) rs (rate_b h)
  have hl := h.len
  have e : (rs.length : Int) * ((10 ^ 50 + 1000000000000) * 10 ^ 27) ≤ 8 * ((10 ^ 50 + 1000000000000) * 10 ^ 27) := Int.mul_le_mul_of_nonneg_right (by omega) (by decide)
  have e2 : (8 : Int) * ((10 ^ 50 + 1000000000000) * 10 ^ 27) ≤ 10 ^ 80 := by decide +kernel
  omega
theorem own_tax_ok {w : Str} {rs : List SRow} (hw : isW w) (h : OkR rs) {a : Int} (ha : -(10 ^ 50) ≤ a ∧ a ≤ 10 ^ 50) : scales_own_tax (scD w rs) (.int a) = .ok (.int (taxV w rs a)) := by
  have ne : rs ≠ [] := by obtain ⟨r, t, e, _⟩ := h.b0; rw [e]; simp
  have L := h.l
  have hl := h.len
  have hL : (lcmR rs : Int) ≤ 10 ^ 24 := by have := L.le; omega
  have hp : (0 : Int) < lcmR rs := by have := L.pos; omega
  by_cases g : a ≤ 0
  · simp [scales_own_tax, g, taxV]
  · have tl := tax_loop hL ha rs 0 ne h.rng
    have tb := tot_b h ha
    have lc : lcGo scales_own_tax_l1 (rs.tail.map (rtD (lcmR rs))) = .ok (rs.tail.map fun r => D.int r.1) := lc_map (by simp; omega) fun r _ => by simp [scales_own_tax_l1, rtD]
    have ad : opAdd (.lst (rs.tail.map fun r => D.int r.1)) (.lst [.int a]) = some (.lst (rs.tail.map (fun r => D.int r.1) ++ [.int a])) := opAdd_ll (by simp; omega)
    have zl : zipB true [.tup (rs.map (rtD (lcmR rs))), .lst (rs.tail.map (fun r => D.int r.1) ++ [.int a])] = some (((rs.map (rtD (lcmR rs))).zip (rs.tail.map (fun r => D.int r.1) ++ [D.int a])).map DM.pairD) := by
      have e : (rs.map (rtD (lcmR rs))).length = (rs.tail.map (fun r => D.int r.1) ++ [D.int a]).length := by
        cases rs with
        | nil => exact absurd rfl ne
        | cons r rs => simp
      simp only [zipB, sqOf_t, sqOf_l, e]
      simp
    have rd := rounded_i hw (t := ttot a (fun r => r.2.1 * ((lcmR rs : Int) / r.2.2)) rs) hp (Int.le_trans (Int.mul_le_mul_of_nonneg_left hL (by decide)) (by decide +kernel)) (small_of (by
      have : -(2 ^ 1000) ≤ -((10 : Int) ^ 80) := by decide +kernel
      omega) (by
      have : (10 : Int) ^ 80 ≤ 2 ^ 1000 := by decide +kernel
      omega)) (small_b (by omega) (by omega))
    rw [List.map_tail] at lc
    simp only [Int.zero_add] at tl
    have e0 : taxV w rs a = rnd w (ttot a (fun r => r.2.1 * ((lcmR rs : Int) / r.2.2)) rs) (lcmR rs) := if_neg g
    generalize ttot a (fun r => r.2.1 * ((lcmR rs : Int) / r.2.2)) rs = T at *
    have ot := own_together_ok (w := w) h
    generalize rs.map (rtD (lcmR rs)) = A at *
    generalize rs.tail.map (fun r => D.int r.1) = E at *
    simp [scales_own_tax, g, ot, lc, ad, zl, tl, rd, e0]
theorem tax_ok {w : Str} {rs : List SRow} (hw : isW w) (h : OkR rs) {a : Int} (ha : -(10 ^ 50) ≤ a ∧ a ≤ 10 ^ 50) : scales_tax (scD w rs) (.int a) = .ok (.int (taxV w rs a)) := by
  have e : scales_need_whole (.v (.int a)) = .ok .non := by simp [scales_need_whole]
  simp [scales_tax, need_scale_ok hw h, e, own_tax_ok hw h ha]
def below (rs : List SRow) (a : Int) : Nat := (rs.filter fun r => decide (r.1 < a)).length
theorem bracket_ok {w : Str} {rs : List SRow} (hw : isW w) (h : OkR rs) (a : Int) : scales_bracket (scD w rs) (.int a) = .ok (if a ≤ 0 then .non else .int ((below rs a : Nat) - 1)) := by
  have e : scales_need_whole (.v (.int a)) = .ok .non := by simp [scales_need_whole]
  have hl := h.len
  have lc : lcGo (scales_bracket_l1 (.int a)) (rs.map rowD) = .ok ((rs.filter fun r => decide (r.1 < a)).map rowD) := lc_filter (by omega) fun r hr => by
    by_cases g : r.1 < a
    · simp [scales_bracket_l1, rowD, g]
    · simp [scales_bracket_l1, rowD, g]
  have i1 : ixD (scD w rs) (.v (.int 1)) = some (.tup (rs.map rowD)) := ix_t1 _ _ _
  have ns := need_scale_ok hw h
  generalize scD w rs = S at *
  by_cases g : a ≤ 0
  · simp [scales_bracket, ns, e, g]
  · simp [scales_bracket, ns, e, g, i1, lc, below]
end Lv
namespace Gk13
open PySem PySem.Spec PyProof.Rows L2 DM
theorem own_loop : ∀ (ds : List D) (o : Int), ∃ o' : Int, forP p__law_cell_b1 ds (.int o) = .ok (.int o')
  | [], o => ⟨o, rfl⟩
  | d :: ds, o => by
    obtain ⟨o', h⟩ := own_loop ds (o / 306783379)
    exact ⟨o', by simp [p__law_cell_b1, opFdiv_l (i := o) (j := 306783379) (by decide +kernel), h]⟩
theorem cell (ns : List Int) (hl : ns.length ≤ 63) (k : Int) (h0 : 0 ≤ k) (h1 : k ≤ 1000000) : ∃ v : Int, 0 ≤ v ∧ v < 306783379 ∧ p__law_cell (.scr ns) (.lst [.int k]) = .ok (.int v, .lst [.int (k + 1)]) := by
  have st : setD (.lst [.int k]) (.v (.int 0)) (.v (.int (k + 1))) = some (.lst [.int (k + 1)]) := rfl
  have m1 : opMul (.v (.int 31)) (.v (.int (k + 1))) = some (.int (31 * (k + 1))) := opMul_ii (small_b (by decide) (by decide)) (small_b (by omega) (by omega))
  have m2 : opMul (.v (.int (31 * (k + 1)))) (.v (.int (k + 1))) = some (.int (31 * (k + 1) * (k + 1))) := opMul_ii (small_b (by omega) (by omega)) (small_b (by omega) (by omega))
  have m3 : opMul (.v (.int 7919)) (.v (.int (k + 1))) = some (.int (7919 * (k + 1))) := opMul_ii (small_b (by decide) (by decide)) (small_b (by omega) (by omega))
  have p18 : opPow (.v (.int 10)) (.v (.int 18)) = some (.int (10 ^ 18)) := opPow_ii (by decide) (by decide) (by decide)
  have p5 : ∀ i : Int, opPow (.v (.int (i % 2147483647))) (.v (.int 5)) = some (.int ((i % 2147483647) ^ 5)) := fun i => opPow_ii (by decide) (by decide) (by omega)
  have d7 : ∀ i : Int, opFdiv (.v (.int i)) (.v (.int 7)) = some (.int (i / 7)) := fun i => opFdiv_l (by decide +kernel)
  have fin1 : ∀ b : Int, 0 ≤ (b % 2147483647) ^ 5 % 2147483647 / 7 ∧ (b % 2147483647) ^ 5 % 2147483647 / 7 < 306783379 := fun b => by omega
  cases hn : ns with
  | nil =>
    refine ⟨_, (fin1 (31 * (k + 1) * (k + 1) + 7919 * (k + 1))).1, (fin1 _).2, ?_⟩
    simp [p__law_cell, st, m1, m2, m3, p5, d7]
  | cons n0 ns' =>
    rw [← hn]
    have hp : 0 < ns.length := by rw [hn]; simp
    have hpi : (0 : Int) < ns.length := by omega
    obtain ⟨c, hc⟩ := atI_mod (k := k + 1) hp
    have md : opMod (.v (.int (k + 1))) (.v (.int ns.length)) = some (.int ((k + 1) % ns.length)) := opMod_ii hpi
    have dv : opFdiv (.v (.int (k + 1))) (.v (.int ns.length)) = some (.int ((k + 1) / ns.length)) := opFdiv_ii hpi (log2_63 hl)
    have ixs : ixD (.scr ns) (.v (.int ((k + 1) % ns.length))) = some (.int c) := by simp only [ixD, hc]; rfl
    have q0 : 0 ≤ (k + 1) / (ns.length : Int) := Int.ediv_nonneg (by omega) (by omega)
    have q1 : (k + 1) / (ns.length : Int) ≤ 1000001 := Int.le_trans (Int.ediv_le_self _ (by omega)) (by omega)
    have m4 : opMul (.v (.int (c % 2147483629))) (.v (.int (1 + (k + 1) / ns.length))) = some (.int (c % 2147483629 * (1 + (k + 1) / ns.length))) := opMul_ii (small_b (by omega) (by omega)) (small_b (by omega) (by omega))
    have rg : rngOf [.int ((k + 1) / ns.length)] = some ((List.range ((k + 1) / (ns.length : Int)).toNat).map fun (k : Nat) => D.int (k : Int)) := by
      have : big ((k + 1) / (ns.length : Int)) = true := by unfold big; simp; omega
      simp [rngOf, this]
    have f2 := fin1 (31 * (k + 1) * (k + 1) + 7919 * (k + 1) + c % 2147483629 * (1 + (k + 1) / ns.length))
    by_cases g : 1000000000000000000 ≤ c ∧ (k + 1) / (ns.length : Int) < 60
    · obtain ⟨o', hlp⟩ := own_loop ((List.range ((k + 1) / (ns.length : Int)).toNat).map fun (k : Nat) => D.int (k : Int)) c
      by_cases g2 : 0 < o'
      · refine ⟨o' % 306783379, by omega, by omega, ?_⟩
        simp [p__law_cell, st, m1, m2, m3, m4, p5, d7, md, dv, ixs, p18, g.1, g.2, hp, hpi, rg, hlp, g2]
      · refine ⟨_, f2.1, f2.2, ?_⟩
        simp [p__law_cell, st, m1, m2, m3, m4, p5, d7, md, dv, ixs, p18, g.1, g.2, hp, hpi, rg, hlp, g2]
    · refine ⟨_, f2.1, f2.2, ?_⟩
      by_cases g1 : 1000000000000000000 ≤ c
      · have g2 : ¬ (k + 1) / (ns.length : Int) < 60 := fun z => g ⟨g1, z⟩
        simp [p__law_cell, st, m1, m2, m3, m4, p5, d7, md, dv, ixs, p18, g1, g2, hp, hpi, rg]
      · simp [p__law_cell, st, m1, m2, m3, m4, p5, d7, md, dv, ixs, p18, g1, hp, hpi, rg]
end Gk13
namespace Gk13
open PySem PySem.Spec PyProof.Rows L2 DM Lv
theorem rnd_mul {w : Str} {t b k : Int} (hk : 0 < k) (hb : 0 < b) : rnd w (k * t) (k * b) = rnd w t b := by
  unfold rnd
  have e1 : k * t / (k * b) = t / b := Int.mul_ediv_mul_of_pos _ _ hk
  have e2 : -(k * t) / (k * b) = -t / b := by
    rw [show -(k * t) = k * (-t) by rw [Int.mul_neg]]
    exact Int.mul_ediv_mul_of_pos _ _ hk
  have e3 : (2 * (k * t) + k * b) / (2 * (k * b)) = (2 * t + b) / (2 * b) := by
    rw [show 2 * (k * t) + k * b = k * (2 * t + b) by rw [Int.mul_add, ← Int.mul_assoc, ← Int.mul_assoc, Int.mul_comm 2 k], show 2 * (k * b) = k * (2 * b) by rw [← Int.mul_assoc, ← Int.mul_assoc, Int.mul_comm 2 k]]
    exact Int.mul_ediv_mul_of_pos _ _ hk
  rw [e1, e2, e3]
theorem rnd_zero {w : Str} (hw : isW w) {b : Int} (hb : 0 < b) : rnd w 0 b = 0 := by
  unfold rnd
  have e : (2 * 0 + b) / (2 * b) = 0 := Int.ediv_eq_zero_of_lt (by omega) (by omega)
  split
  · simp
  · split
    · simp
    · exact e
theorem fl_b (x : Int) {b : Int} (hb : 0 < b) : x / b * b ≤ x ∧ x < x / b * b + b := by
  have e : x / b * b ≤ x := Int.ediv_mul_le _ (by omega)
  have e2 : x < (x / b + 1) * b := Int.lt_ediv_add_one_mul_self _ hb
  rw [Int.add_mul, Int.one_mul] at e2
  exact ⟨e, e2⟩
theorem rnd_in {w : Str} (hw : isW w) (t : Int) {b : Int} (hb : 0 < b) : (w = wDown ∧ rnd w t b * b ≤ t ∧ t < rnd w t b * b + b) ∨ (w = wUp ∧ t ≤ rnd w t b * b ∧ rnd w t b * b < t + b) ∨ (w = wNear ∧ 2 * (rnd w t b * b) ≤ 2 * t + b ∧ 2 * t + b < 2 * (rnd w t b * b) + 2 * b) := by
  have n1 : ¬ wUp = wDown := by decide
  have n2 : ¬ wNear = wDown := by decide
  have n3 : ¬ wNear = wUp := by decide
  rcases hw with rfl | rfl | rfl
  · refine .inl ⟨rfl, ?_⟩
    unfold rnd; rw [if_pos rfl]
    exact fl_b t hb
  · refine .inr (.inl ⟨rfl, ?_⟩)
    unfold rnd; rw [if_neg n1, if_pos rfl]
    have := fl_b (-t) hb
    rw [Int.neg_mul]
    omega
  · refine .inr (.inr ⟨rfl, ?_⟩)
    unfold rnd; rw [if_neg n2, if_neg n3]
    have := fl_b (2 * t + b) (b := 2 * b) (by omega)
    rw [show (2 * t + b) / (2 * b) * (2 * b) = 2 * ((2 * t + b) / (2 * b) * b) by rw [← Int.mul_assoc, Int.mul_comm _ 2, ← Int.mul_assoc, Int.mul_assoc]] at this
    exact this
theorem lt_of_mul {x y b : Int} (hb : 0 < b) (h : x * b < y * b) : x < y := Int.lt_of_mul_lt_mul_right h (by omega)
theorem rnd_mono {w : Str} (hw : isW w) {t s : Int} {b : Int} (hb : 0 < b) (h : t ≤ s) : rnd w t b ≤ rnd w s b := by
  have h1 := rnd_in hw t hb
  have h2 := rnd_in hw s hb
  have n1 : ¬ wUp = wDown := by decide
  have n2 : ¬ wNear = wDown := by decide
  have n3 : ¬ wNear = wUp := by decide
  have n4 : ¬ wDown = wUp := by decide
  have n5 : ¬ wDown = wNear := by decide
  have n6 : ¬ wUp = wNear := by decide
  generalize rnd w t b = x at *
  generalize rnd w s b = y at *
  refine Int.le_of_lt_add_one (lt_of_mul hb ?_)
  rw [Int.add_mul, Int.one_mul]
  rcases hw with rfl | rfl | rfl
  · simp only [n4, n5, false_and, or_false, true_and] at h1 h2
    omega
  · simp only [n1, n6, false_and, or_false, false_or, true_and] at h1 h2
    omega
  · simp only [n2, n3, false_and, or_false, false_or, true_and] at h1 h2
    omega
theorem rnd_add {w : Str} (hw : isW w) {t s : Int} {b : Int} (hb : 0 < b) : -1 ≤ rnd w t b + rnd w s b - rnd w (t + s) b ∧ rnd w t b + rnd w s b - rnd w (t + s) b ≤ 1 := by
  have h1 := rnd_in hw t hb
  have h2 := rnd_in hw s hb
  have h3 := rnd_in hw (t + s) hb
  have n1 : ¬ wUp = wDown := by decide
  have n2 : ¬ wNear = wDown := by decide
  have n3 : ¬ wNear = wUp := by decide
  have n4 : ¬ wDown = wUp := by decide
  have n5 : ¬ wDown = wNear := by decide
  have n6 : ¬ wUp = wNear := by decide
  generalize rnd w t b = x at *
  generalize rnd w s b = y at *
  generalize rnd w (t + s) b = z at *
  have k1 : -2 < x + y - z := by
    refine lt_of_mul hb ?_
    rw [Int.sub_mul, Int.add_mul]
    rcases hw with rfl | rfl | rfl
    · simp only [n4, n5, false_and, or_false, true_and] at h1 h2 h3
      omega
    · simp only [n1, n6, false_and, or_false, false_or, true_and] at h1 h2 h3
      omega
    · simp only [n2, n3, false_and, or_false, false_or, true_and] at h1 h2 h3
      omega
  have k2 : x + y - z < 2 := by
    refine lt_of_mul hb ?_
    rw [Int.sub_mul, Int.add_mul]
    rcases hw with rfl | rfl | rfl
    · simp only [n4, n5, false_and, or_false, true_and] at h1 h2 h3
      omega
    · simp only [n1, n6, false_and, or_false, false_or, true_and] at h1 h2 h3
      omega
    · simp only [n2, n3, false_and, or_false, false_or, true_and] at h1 h2 h3
      omega
  omega
def wT (w : Str) : Str := if w = wDown then wUp else if w = wUp then wDown else wNear
theorem isW_T {w : Str} (hw : isW w) : isW (wT w) := by
  rcases hw with rfl | rfl | rfl
  · exact .inr (.inl rfl)
  · exact .inl rfl
  · exact .inr (.inr rfl)
theorem rnd_T {w : Str} (hw : isW w) (hn : w ≠ wNear) (t b : Int) : rnd (wT w) (-t) b = -(rnd w t b) := by
  have n1 : ¬ wUp = wDown := by decide
  rcases hw with rfl | rfl | rfl
  · show rnd wUp (-t) b = -(rnd wDown t b)
    unfold rnd; rw [if_neg n1, if_pos rfl, if_pos rfl, Int.neg_neg]
  · show rnd wDown (-t) b = -(rnd wUp t b)
    unfold rnd; rw [if_pos rfl, if_neg n1, if_pos rfl, Int.neg_neg]
  · exact absurd rfl hn
/-! sums -/
theorem ttot_zero {a : Int} {c : SRow → Int} : ∀ {rs : List SRow}, (∀ r ∈ rs, a ≤ r.1) → ttot a c rs = 0
  | [], _ => rfl
  | r :: rs, h => by
    unfold ttot
    have h1 := h r List.mem_cons_self
    rw [if_neg (by omega), ttot_zero fun q hq => h q (List.mem_cons_of_mem _ hq)]
    rfl
theorem taxV_any {w : Str} {rs : List SRow} (hw : isW w) (h : OkR rs) {K : Int} (hK : 0 < K) (hd : ∀ r ∈ rs, r.2.2 ∣ K) {a : Int} (ha : 0 ≤ a) : taxV w rs a = rnd w (ttot a (fun r => r.2.1 * (K / r.2.2)) rs) K := by
  have L := h.l
  by_cases g : a = 0
  · subst g
    rw [ttot_zero fun r hr => (h.rng r hr).1, rnd_zero hw hK]
    rfl
  have hLp : (0 : Int) < lcmR rs := by have := L.pos; omega
  have eK : ((K.toNat : Nat) : Int) = K := Int.toNat_of_nonneg (by omega)
  obtain ⟨k, hk⟩ := L.least K.toNat fun r hr => by
    have hr' := h.rng r hr
    have e1 : ((r.2.2.toNat : Nat) : Int) = r.2.2 := Int.toNat_of_nonneg (by omega)
    apply Int.natCast_dvd_natCast.mp
    rw [e1, eK]
    exact hd r hr
  have ek : K = (k : Int) * (lcmR rs : Int) := by rw [← eK, hk, Int.natCast_mul, Int.mul_comm]
  have kp : (0 : Int) < k := by
    by_cases hz : k = 0
    · subst hz; simp at ek; omega
    · omega
  have em : ttot a (fun r => r.2.1 * (K / r.2.2)) rs = k * ttot a (fun r => r.2.1 * ((lcmR rs : Int) / r.2.2)) rs := ttot_mul a k _ _ rs fun r hr => by
    have := L.dvd r hr
    rw [ek, Int.mul_ediv_assoc k this, ← Int.mul_assoc, Int.mul_comm r.2.1 k, Int.mul_assoc]
  rw [em, ek, rnd_mul kp hLp]
  exact if_neg (by omega)
theorem next_app {a : Int} {l x y : SRow} {pre h1 h2 : List SRow} : nextB a (pre ++ l :: h1) = nextB a (pre ++ l :: h2) := by
  cases pre <;> rfl
theorem next_end {a : Int} {hi : List SRow} (h : ∀ r ∈ hi, a ≤ r.1) : nextB a hi = a := by
  cases hi with
  | nil => rfl
  | cons s t =>
    have := h s List.mem_cons_self
    exact if_neg (by omega)
theorem ttot_ins {a : Int} {c : SRow → Int} {l q : SRow} (hlq : l.1 < q.1) (hc : c q = c l) {hi : List SRow} (hh : ∀ r ∈ hi, q.1 < r.1) : ∀ pre : List SRow, ttot a c (pre ++ l :: q :: hi) = ttot a c (pre ++ l :: hi)
  | [] => by
    show (if l.1 < a then ((if q.1 < a then q.1 else a) - l.1) * c l else 0) + ((if q.1 < a then (nextB a hi - q.1) * c q else 0) + ttot a c hi) = (if l.1 < a then (nextB a hi - l.1) * c l else 0) + ttot a c hi
    rw [hc]
    by_cases g : q.1 < a
    · rw [if_pos g, if_pos g, if_pos (by omega), if_pos (by omega), ← Int.add_assoc, ← Int.add_mul]
      congr 2
      omega
    · rw [if_neg g, if_neg g, next_end fun r hr => by have := hh r hr; omega]
      simp
  | p :: pre => by
    show (if p.1 < a then (nextB a (pre ++ l :: q :: hi) - p.1) * c p else 0) + ttot a c (pre ++ l :: q :: hi) = (if p.1 < a then (nextB a (pre ++ l :: hi) - p.1) * c p else 0) + ttot a c (pre ++ l :: hi)
    rw [ttot_ins hlq hc hh pre, next_app (x := l) (y := l) (h1 := q :: hi) (h2 := hi)]
def shR (b : Int) (r : SRow) : SRow := (r.1 - b, r.2)
theorem next_sh {a b : Int} (hi : List SRow) : nextB (a - b) (hi.map (shR b)) = nextB a hi - b := by
  cases hi with
  | nil => rfl
  | cons s t =>
    show (if s.1 - b < a - b then s.1 - b else a - b) = (if s.1 < a then s.1 else a) - b
    split <;> split <;> omega
theorem ttot_sh {a b : Int} (g : Int × Int → Int) : ∀ hi : List SRow, ttot (a - b) (fun r => g r.2) (hi.map (shR b)) = ttot a (fun r => g r.2) hi
  | [] => rfl
  | s :: t => by
    show (if s.1 - b < a - b then (nextB (a - b) (t.map (shR b)) - (s.1 - b)) * g s.2 else 0) + ttot (a - b) (fun r => g r.2) (t.map (shR b)) = (if s.1 < a then (nextB a t - s.1) * g s.2 else 0) + ttot a (fun r => g r.2) t
    rw [ttot_sh g t, next_sh]
    congr 1
    by_cases q : s.1 < a
    · rw [if_pos q, if_pos (by omega)]
      congr 1
      omega
    · rw [if_neg q, if_neg (by omega)]
theorem ttot_part {a b : Int} (g : Int × Int → Int) {l : SRow} (hl : l.1 ≤ b) (hb : b < a) {hi : List SRow} (hh : ∀ r ∈ hi, b < r.1) : ∀ pre : List SRow, (pre ++ l :: hi).Pairwise (fun x y => x.1 < y.1) →
    ttot b (fun r => g r.2) (pre ++ l :: hi) + ttot (a - b) (fun r => g r.2) ((0, l.2) :: hi.map (shR b)) = ttot a (fun r => g r.2) (pre ++ l :: hi)
  | [], _ => by
    show ((if l.1 < b then (nextB b hi - l.1) * g l.2 else 0) + ttot b (fun r => g r.2) hi) + ((if 0 < a - b then (nextB (a - b) (hi.map (shR b)) - 0) * g l.2 else 0) + ttot (a - b) (fun r => g r.2) (hi.map (shR b))) = (if l.1 < a then (nextB a hi - l.1) * g l.2 else 0) + ttot a (fun r => g r.2) hi
    rw [ttot_sh, next_sh, ttot_zero fun r hr => Int.le_of_lt (hh r hr), next_end fun r hr => Int.le_of_lt (hh r hr), if_pos (show 0 < a - b by omega), if_pos (show l.1 < a by omega)]
    have e : (if l.1 < b then (b - l.1) * g l.2 else 0) = (b - l.1) * g l.2 := by
      split
      · rfl
      · rw [show b - l.1 = 0 by omega, Int.zero_mul]
    rw [e, Int.add_zero, ← Int.add_assoc, ← Int.add_mul]
    congr 2
    omega
  | p :: pre, hp => by
    rw [List.cons_append, List.pairwise_cons] at hp
    have ih := ttot_part g hl hb hh pre hp.2
    show ((if p.1 < b then (nextB b (pre ++ l :: hi) - p.1) * g p.2 else 0) + ttot b (fun r => g r.2) (pre ++ l :: hi)) + ttot (a - b) (fun r => g r.2) ((0, l.2) :: hi.map (shR b)) = (if p.1 < a then (nextB a (pre ++ l :: hi) - p.1) * g p.2 else 0) + ttot a (fun r => g r.2) (pre ++ l :: hi)
    rw [← ih, Int.add_assoc]
    congr 1
    have pl := hp.1 l (by simp)
    have hs : ∃ s t, pre ++ l :: hi = s :: t ∧ s.1 ≤ b := by
      cases pre with
      | nil => exact ⟨l, hi, rfl, hl⟩
      | cons s t =>
        refine ⟨s, t ++ l :: hi, rfl, ?_⟩
        have := hp.2
        rw [List.cons_append, List.pairwise_cons] at this
        have := this.1 l (by simp)
        omega
    obtain ⟨s, t, e, h1⟩ := hs
    rw [e]
    show (if p.1 < b then ((if s.1 < b then s.1 else b) - p.1) * g p.2 else 0) = (if p.1 < a then ((if s.1 < a then s.1 else a) - p.1) * g p.2 else 0)
    rw [if_pos (show p.1 < b by omega), if_pos (show p.1 < a by omega), if_pos (show s.1 < a by omega)]
    congr 2
    split <;> omega
theorem ttot_mono {a a' : Int} (h : a ≤ a') {c : SRow → Int} : ∀ rs : List SRow, rs.Pairwise (fun x y => x.1 < y.1) → (∀ r ∈ rs, 0 ≤ c r) → ttot a c rs ≤ ttot a' c rs
  | [], _, _ => Int.le_refl _
  | r :: rs, hp, hc => by
    rw [List.pairwise_cons] at hp
    have ih := ttot_mono h rs hp.2 fun q hq => hc q (List.mem_cons_of_mem _ hq)
    have c0 := hc r List.mem_cons_self
    show (if r.1 < a then (nextB a rs - r.1) * c r else 0) + ttot a c rs ≤ (if r.1 < a' then (nextB a' rs - r.1) * c r else 0) + ttot a' c rs
    refine Int.add_le_add ?_ ih
    have nm : nextB a rs ≤ nextB a' rs := by
      cases rs with
      | nil => exact h
      | cons s t =>
        show (if s.1 < a then s.1 else a) ≤ (if s.1 < a' then s.1 else a')
        split <;> split <;> omega
    by_cases g : r.1 < a
    · rw [if_pos g, if_pos (by omega)]
      exact Int.mul_le_mul_of_nonneg_right (by omega) c0
    · rw [if_neg g]
      split
      · refine Int.mul_nonneg ?_ c0
        cases rs with
        | nil => show 0 ≤ a' - r.1; omega
        | cons s t =>
          have := hp.1 s List.mem_cons_self
          show 0 ≤ (if s.1 < a' then s.1 else a') - r.1
          split <;> omega
      · exact Int.le_refl _
theorem cut_at {b : Int} : ∀ rs : List SRow, rs.Pairwise (fun x y => x.1 < y.1) → (∃ r t, rs = r :: t ∧ r.1 ≤ b) → ∃ pre l hi, rs = pre ++ l :: hi ∧ l.1 ≤ b ∧ (∀ r ∈ pre, r.1 < l.1) ∧ ∀ r ∈ hi, b < r.1
  | [], _, h => by obtain ⟨_, _, e, _⟩ := h; cases e
  | r :: t, hp, h => by
    obtain ⟨_, _, e, h0⟩ := h
    cases e
    rw [List.pairwise_cons] at hp
    match t, hp with
    | [], _ => exact ⟨[], r, [], rfl, h0, (fun _ h => nomatch h), (fun _ h => nomatch h)⟩
    | s :: t, hp =>
      by_cases g : s.1 ≤ b
      · obtain ⟨pre, l, hi, e, h1, h2, h3⟩ := cut_at (s :: t) hp.2 ⟨s, t, rfl, g⟩
        refine ⟨r :: pre, l, hi, by rw [e]; rfl, h1, fun q hq => ?_, h3⟩
        rcases List.mem_cons.mp hq with rfl | hq
        · exact hp.1 l (by rw [e]; simp)
        · exact h2 q hq
      · refine ⟨[], r, s :: t, rfl, h0, (fun _ h => nomatch h), fun q hq => ?_⟩
        rcases List.mem_cons.mp hq with rfl | hq
        · omega
        · have := (List.pairwise_cons.mp hp.2).1 q hq
          omega
end Gk13
namespace Gk13
open PySem PySem.Spec PyProof.Rows L2 DM Lv
theorem enum_nil (i : Nat) : enumFrom i [] = [] := rfl
theorem enum_cons (i : Nat) (d : D) (ds : List D) : enumFrom i (d :: ds) = .tup [.int (i : Int), d] :: enumFrom (i + 1) ds := rfl
theorem ix_last (xs : List D) (x : D) : ixD (.lst (xs ++ [x])) (.v (.int (-1))) = some x := by
  have e : ixN (xs ++ [x]).length (-1) = some xs.length := by
    unfold ixN
    rw [if_neg (by decide), List.length_append, List.length_singleton, if_pos (by omega)]
    congr 1
    omega
  simp only [ixD, atI, e]
  simp
theorem mem_ints {xs : List Int} {d : D} (h : d ∈ xs.map D.int) : ∃ i ∈ xs, d = .int i := by
  obtain ⟨i, h1, h2⟩ := List.mem_map.mp h
  exact ⟨i, h1, h2.symm⟩
theorem ix_intm (xs : List Int) (n : Int) (hn : n = xs.length) (h : 0 < n) (i : Int) : ∃ v ∈ xs, ixD (.lst (xs.map D.int)) (.v (.int (i % n))) = some (.int v) := by
  obtain ⟨d, e, m⟩ := ix_mod (ds := xs.map D.int) (i := i) (n := n) (by simpa using hn) h
  obtain ⟨v, hv, rfl⟩ := mem_ints m
  exact ⟨v, hv, e⟩
/-- the begins so far -/
structure Bs (i : Nat) (bs : List Int) : Prop where
  hd : ∃ t, bs = 0 :: t
  inc : bs.Pairwise (· < ·)
  len : bs.length = i + 1
  bd : ∀ b ∈ bs, 0 ≤ b ∧ b ≤ i * 1000001
theorem Bs.next {i : Nat} {bs : List Int} {l x : Int} {init : List Int} (h : Bs i bs) (hl : bs = init ++ [l]) (hx : 0 ≤ x ∧ x ≤ 1000000) : Bs (i + 1) (bs ++ [l + 1 + x]) := by
  obtain ⟨t, ht⟩ := h.hd
  have lm : l ∈ bs := by rw [hl]; simp
  have lb := h.bd l lm
  have top : ∀ b ∈ bs, b ≤ l := fun b hb => by
    have hi := h.inc
    rw [hl] at hi hb
    rw [List.pairwise_append] at hi
    rcases List.mem_append.mp hb with z | z
    · have := hi.2.2 b z l (by simp); omega
    · simp at z; omega
  refine ⟨⟨t ++ [l + 1 + x], by rw [ht]; rfl⟩, ?_, by rw [List.length_append, h.len]; rfl, fun b hb => ?_⟩
  · rw [List.pairwise_append]
    refine ⟨h.inc, List.pairwise_singleton _ _, fun a ha b hb => ?_⟩
    simp at hb
    have := top a ha
    omega
  · rw [Int.natCast_add, Int.add_mul]
    rcases List.mem_append.mp hb with z | z
    · have := h.bd b z
      omega
    · simp at z
      omega
theorem scale_loop1 (ns : List Int) (hns : ns.length ≤ 63) (ds : List D) (k : Int) (h0 : 0 ≤ k) (h1 : k ≤ 900000) (hd : ds.length ≤ 7) :
    Sat (forP (p__law_scale_b1 (.scr ns)) ds (.lst [.int k], .lst [.int 0])) fun b => ∃ bs, b = (.lst [.int (k + ds.length)], .lst (bs.map D.int)) ∧ Bs ds.length bs := by
  have := Sat.forP (B := p__law_scale_b1 (.scr ns)) (fun i b => ∃ bs, b = (.lst [.int (k + i)], .lst (bs.map D.int)) ∧ Bs i bs) (ds := ds) (i := 0) (b := (.lst [.int k], .lst [.int 0]))
    ⟨[0], by simp, ⟨[], rfl⟩, List.pairwise_singleton _ _, rfl, fun b hb => by simp at hb; subst hb; decide⟩ fun j d b hj hb => by
    obtain ⟨bs, rfl, hB⟩ := hb
    have hj' := (List.getElem?_eq_some_iff.mp hj).1
    rw [Nat.zero_add] at hB ⊢
    obtain ⟨n, n0, n1, c⟩ := cell ns hns (k + j) (by omega) (by omega)
    have p6 : opPow (.v (.int 10)) (.v (.int 6)) = some (.int 1000000) := opPow_ii (by decide) (by decide) (by decide)
    have f9 : opFdiv (.v (.int n)) (.v (.int 9)) = some (.int (n / 9)) := opFdiv_l (by decide +kernel)
    obtain ⟨x, hx, ex⟩ := ix_intm [n % 9, n % 1000, n % 1000000] 3 rfl (by decide) (n / 9)
    have hx2 : 0 ≤ x ∧ x ≤ 1000000 := by
      simp only [List.mem_cons, List.not_mem_nil, or_false] at hx
      omega
    have ex : ixD (.lst [.int (n % 9), .int (n % 1000), .int (n % 1000000)]) (.v (.int (n / 9 % 3))) = some (.int x) := ex
    obtain ⟨init, l, hl⟩ : ∃ init l, bs = init ++ [l] := by
      obtain ⟨t, ht⟩ := hB.hd
      exact ⟨bs.dropLast, bs.getLast (by rw [ht]; simp), (List.dropLast_concat_getLast _).symm⟩
    have el : ixD (.lst (bs.map D.int)) (.v (.int (-1))) = some (.int l) := by
      rw [hl, List.map_append]; exact ix_last _ _
    have hlen := hB.len
    have ap : mAppend (bs.map D.int) [.int (l + 1 + x)] = some (.non, (bs ++ [l + 1 + x]).map D.int) := by
      rw [mAppend_ok (by simp; omega), List.map_append]; rfl
    refine ⟨(.lst [.int (k + j + 1)], .lst ((bs ++ [l + 1 + x]).map D.int)), ?_, bs ++ [l + 1 + x], by rw [show k + ((j + 1 : Nat) : Int) = k + j + 1 by omega], hB.next hl hx2⟩
    generalize (bs ++ [l + 1 + x]).map D.int = Z at *
    generalize bs.map D.int = Y at *
    simp [p__law_scale_b1, c, el, p6, f9, ex, ap]
  rw [Nat.zero_add] at this
  exact this
structure Rw (rs : List SRow) (bs : List Int) : Prop where
  fst : rs.map (·.1) = bs
  rng : ∀ r ∈ rs, -1000 ≤ r.2.1 ∧ r.2.1 ≤ 1000 ∧ 1 ≤ r.2.2 ∧ r.2.2 ≤ 1000
theorem enum_at {ds : List D} {i j : Nat} {d : D} (h : (enumFrom i ds)[j]? = some d) : ∃ e, ds[j]? = some e ∧ d = .tup [.int ((i + j : Nat) : Int), e] := by
  induction ds generalizing i j with
  | nil => simp [enum_nil] at h
  | cons x xs ih =>
    rw [enum_cons] at h
    cases j with
    | zero => simp at h; exact ⟨x, rfl, h.symm⟩
    | succ j =>
      obtain ⟨e, h1, h2⟩ := ih (i := i + 1) (j := j) (by simpa using h)
      exact ⟨e, by simpa using h1, by rw [h2]; congr 4; omega⟩
theorem enum_len (ds : List D) : ∀ i, (enumFrom i ds).length = ds.length := by
  induction ds with
  | nil => intro i; rfl
  | cons x xs ih => intro i; rw [enum_cons, List.length_cons, ih, List.length_cons]
theorem scale_loop2 (ns : List Int) (hns : ns.length ≤ 63) (bs : List Int) (k : Int) (h0 : 0 ≤ k) (h1 : k ≤ 900000) (hd : bs.length ≤ 8) :
    Sat (forP (p__law_scale_b2 (.scr ns)) (enumFrom 0 (bs.map D.int)) (.lst [.int k], .lst [])) fun b => ∃ rs, b = (.lst [.int (k + bs.length)], .lst (rs.map rowD)) ∧ Rw rs bs := by
  have := Sat.forP (B := p__law_scale_b2 (.scr ns)) (fun i b => ∃ rs, b = (.lst [.int (k + i)], .lst (rs.map rowD)) ∧ Rw rs (bs.take i)) (ds := enumFrom 0 (bs.map D.int)) (i := 0) (b := (.lst [.int k], .lst []))
    ⟨[], by simp, rfl, fun r hr => nomatch hr⟩ fun j d b hj hb => by
    obtain ⟨rs, rfl, hB⟩ := hb
    obtain ⟨e, he, rfl⟩ := enum_at hj
    rw [Nat.zero_add] at hB ⊢
    obtain ⟨hj', _⟩ := List.getElem?_eq_some_iff.mp he
    rw [List.length_map] at hj'
    have he' : e = .int bs[j] := by
      rw [List.getElem?_map, List.getElem?_eq_getElem hj'] at he
      exact (Option.some.inj he).symm
    subst he'
    obtain ⟨n, n0, n1, c⟩ := cell ns hns (k + j) (by omega) (by omega)
    have f1 : opFdiv (.v (.int n)) (.v (.int 1000)) = some (.int (n / 1000)) := opFdiv_l (by decide +kernel)
    have f2 : opFdiv (.v (.int n)) (.v (.int 6000)) = some (.int (n / 6000)) := opFdiv_l (by decide +kernel)
    obtain ⟨x, hx, ex⟩ := ix_intm [100, 10, 1 + n % 1000, 3, 1, 7] 6 rfl (by decide) (n / 1000)
    obtain ⟨y, hy, ey⟩ := ix_intm [n % 61, n % 2001 - 1000, 0, n % 11] 4 rfl (by decide) (n / 6000)
    have hx2 : 1 ≤ x ∧ x ≤ 1000 := by
      simp only [List.mem_cons, List.not_mem_nil, or_false] at hx
      omega
    have hy2 : -1000 ≤ y ∧ y ≤ 1000 := by
      simp only [List.mem_cons, List.not_mem_nil, or_false] at hy
      omega
    have ex : ixD (.lst [.int 100, .int 10, .int (1 + n % 1000), .int 3, .int 1, .int 7]) (.v (.int (n / 1000 % 6))) = some (.int x) := ex
    have ey : ixD (.lst [.int (n % 61), .int (n % 2001 - 1000), .int 0, .int (n % 11)]) (.v (.int (n / 6000 % 4))) = some (.int y) := ey
    have hlen : rs.length ≤ 8 := by
      have := congrArg List.length hB.fst
      simp at this; omega
    have ap : mAppend (rs.map rowD) [.tup [.int bs[j], .int y, .int x]] = some (.non, (rs ++ [(bs[j], y, x)]).map rowD) := by
      rw [mAppend_ok (by simp; omega), List.map_append]; rfl
    refine ⟨(.lst [.int (k + j + 1)], .lst ((rs ++ [(bs[j], y, x)]).map rowD)), ?_, rs ++ [(bs[j], y, x)], by rw [show k + ((j + 1 : Nat) : Int) = k + j + 1 by omega], ?_, fun r hr => ?_⟩
    · generalize (rs ++ [(bs[j], y, x)]).map rowD = Z at *
      generalize rs.map rowD = Y at *
      generalize bs[j] = bj at *
      simp [p__law_scale_b2, c, f1, f2, ex, ey, ap]
    · rw [List.map_append, hB.fst, List.take_add_one, List.getElem?_eq_getElem hj']; rfl
    · rcases List.mem_append.mp hr with z | z
      · exact hB.rng r z
      · simp at z; subst z; exact ⟨hy2.1, hy2.2, hx2.1, hx2.2⟩
  rw [Nat.zero_add, enum_len, List.length_map] at this
  refine this.imp fun b ⟨rs, e, h⟩ => ⟨rs, e, ?_⟩
  rw [List.take_length] at h
  exact h
theorem scale_ok (ns : List Int) (hns : ns.length ≤ 63) (k : Int) (h0 : 0 ≤ k) (h1 : k ≤ 800000) : Sat (p__law_scale (.scr ns) (.lst [.int k])) fun c => ∃ w rs k', c = (scD w rs, .lst [.int k']) ∧ isW w ∧ OkR rs ∧ (∀ r ∈ rs, r.1 ≤ 10000000) ∧ k ≤ k' ∧ k' ≤ k + 20 := by
  obtain ⟨n, n0, n1, c1⟩ := cell ns hns k (by omega) (by omega)
  obtain ⟨m, m0, m1, c2⟩ := cell ns hns (k + 1) (by omega) (by omega)
  obtain ⟨x, hx, ex⟩ := ix_intm [0, 1, 2, 3, 7, 4, 2] 7 rfl (by decide) n
  have hx2 : 0 ≤ x ∧ x ≤ 7 := by
    simp only [List.mem_cons, List.not_mem_nil, or_false] at hx
    omega
  have ex : ixD (.lst [.int 0, .int 1, .int 2, .int 3, .int 7, .int 4, .int 2]) (.v (.int (n % 7))) = some (.int x) := ex
  have rg := rng_nat (n := x) hx2.1 (by omega)
  obtain ⟨b1, e1, bs, rfl, hB⟩ := scale_loop1 ns hns ((List.range x.toNat).map fun (k : Nat) => D.int (k : Int)) (k + 1 + 1) (by omega) (by omega) (by simp; omega)
  rw [List.length_map, List.length_range] at e1 hB
  have hbl := hB.len
  obtain ⟨b2, e2, rs, rfl, hR⟩ := scale_loop2 ns hns bs (k + 1 + 1 + (x.toNat : Nat)) (by omega) (by omega) (by omega)
  obtain ⟨d, ed, md⟩ := ix_mod (ds := [.str "down", .str "up", .str "near"]) (i := m) (n := 3) rfl (by decide)
  have hw : ∃ w, isW w ∧ d = .str w := by
    simp only [List.mem_cons, List.not_mem_nil, or_false] at md
    rcases md with rfl | rfl | rfl
    · exact ⟨wDown, .inl rfl, rfl⟩
    · exact ⟨wUp, .inr (.inl rfl), rfl⟩
    · exact ⟨wNear, .inr (.inr rfl), rfl⟩
  obtain ⟨w, hw, rfl⟩ := hw
  have ok : OkR rs := by
    have hf := hR.fst
    have hl : rs.length = bs.length := by have := congrArg List.length hf; simpa using this
    refine ⟨by omega, ?_, ?_, fun r hr => ?_⟩
    · obtain ⟨t, ht⟩ := hB.hd
      cases rs with
      | nil => rw [ht] at hf; simp at hf
      | cons r rs =>
        rw [ht] at hf
        simp at hf
        exact ⟨r, rs, rfl, hf.1⟩
    · have hi := hB.inc
      rw [← hf, List.pairwise_map] at hi
      exact hi
    · have := hB.bd r.1 (by rw [← hf]; exact List.mem_map.mpr ⟨r, hr, rfl⟩)
      have r2 := hR.rng r hr
      refine ⟨this.1, ?_, r2⟩
      have hx7 : ((x.toNat : Nat) : Int) ≤ 7 := by omega
      have : ((x.toNat : Nat) : Int) * 1000001 ≤ 7 * 1000001 := Int.mul_le_mul_of_nonneg_right hx7 (by decide)
      omega
  have bd : ∀ r ∈ rs, r.1 ≤ 10000000 := fun r hr => by
    have := hB.bd r.1 (by rw [← hR.fst]; exact List.mem_map.mpr ⟨r, hr, rfl⟩)
    have hx7 : ((x.toNat : Nat) : Int) ≤ 7 := by omega
    have : ((x.toNat : Nat) : Int) * 1000001 ≤ 7 * 1000001 := Int.mul_le_mul_of_nonneg_right hx7 (by decide)
    omega
  have en : enumOfA [.lst (bs.map D.int)] = some (enumFrom 0 (bs.map D.int)) := rfl
  have rg' : rngOf [.v (.int x)] = some ((List.range x.toNat).map fun (k : Nat) => D.int (k : Int)) := rg
  refine ⟨(scD w rs, .lst [.int (k + 1 + 1 + (x.toNat : Nat) + bs.length)]), ?_, w, rs, _, rfl, hw, ok, bd, by omega, by omega⟩
  generalize (List.range x.toNat).map (fun (k : Nat) => D.int (k : Int)) = X at *
  generalize bs.map D.int = Y at *
  simp only [p__law_scale, c1, c2, Re.bind_ok, opMod_l (show (0 : Int) < 7 by decide), opMod_l (show (0 : Int) < 3 by decide), Re.ofO_some, ex, rg', e1, en, e2, ed, tupD_l, scD]
end Gk13
namespace Gk13
open PySem PySem.Spec PyProof.Rows L2 DM Lv
theorem ofO_eq {α ω : Type} {o : Option α} {a : α} {k : α → Re ω} {r : Re ω} (h : o = some a) (hk : k a = r) : Re.ofO o k = r := by rw [h]; exact hk
theorem bind_eq {α ω : Type} {o : Re α} {a : α} {k : α → Re ω} {r : Re ω} (h : o = .ok a) (hk : k a = r) : Re.bind o k = r := by rw [h]; exact hk
theorem esc_eq {β ω : Type} {o : Re (Fl β ω)} {a : β} {k : β → Re ω} {r : Re ω} (h : o = .ok (.nx a)) (hk : k a = r) : Re.esc o k = r := by rw [h]; exact hk
theorem ite_f {α : Type} {a b r : α} (h : b = r) : (if false = true then a else b) = r := h
theorem ite_t {α : Type} {a b r : α} (h : a = r) : (if true = true then a else b) = r := h
theorem dz_row (r : SRow) : Dz 1 (rowD r) := dz_tup fun x hx => by
  simp only [List.mem_cons, List.not_mem_nil, or_false] at hx
  rcases hx with rfl | rfl | rfl <;> exact dz_int _
def negR (r : SRow) : SRow := (r.1, -r.2.1, r.2.2)
theorem turned_ok {w : Str} {rs : List SRow} (hw : isW w) (h : rs.length ≤ 8) : p__law_turned (scD w rs) = .ok (scD (wT w) (rs.map negR)) := by
  have lc : lcGo p__law_turned_l1 (rs.map rowD) = .ok (rs.map fun r => rowD (negR r)) := lc_map (by omega) fun r _ => rfl
  have gd : dgetD (D.dct [(D.str "down", (D.str "up")), (D.str "up", (D.str "down")), (D.str "near", (D.str "near"))]) (.str w) = some (.str (wT w)) := by
    rcases hw with rfl | rfl | rfl <;> rfl
  have e : (rs.map fun r => rowD (negR r)) = (rs.map negR).map rowD := by rw [List.map_map]; rfl
  rw [e] at lc
  simp only [p__law_turned, scD, un2_t, gd, itemsOf_t, Re.ofO_some, lc, Re.bind_ok, tupD_l]
theorem neg_okR {rs : List SRow} (h : OkR rs) : OkR (rs.map negR) := by
  obtain ⟨r, t, e, h0⟩ := h.b0
  refine ⟨by simpa using h.len, ⟨negR r, t.map negR, by rw [e]; rfl, h0⟩, ?_, fun q hq => ?_⟩
  · rw [List.pairwise_map]; exact h.inc
  · obtain ⟨r, hr, rfl⟩ := List.mem_map.mp hq
    have := h.rng r hr
    refine ⟨this.1, this.2.1, ?_, ?_, this.2.2.2.2⟩
    · show -1000 ≤ -r.2.1; omega
    · show -r.2.1 ≤ 1000; omega
theorem next_map {a : Int} {f : SRow → SRow} (hf : ∀ r, (f r).1 = r.1) (rs : List SRow) : nextB a (rs.map f) = nextB a rs := by
  cases rs with
  | nil => rfl
  | cons s t => show (if (f s).1 < a then (f s).1 else a) = _; rw [hf]; rfl
theorem ttot_map {a k : Int} {f : SRow → SRow} {c d : SRow → Int} (hf : ∀ r, (f r).1 = r.1) : ∀ rs : List SRow, (∀ r ∈ rs, d (f r) = k * c r) → ttot a d (rs.map f) = k * ttot a c rs
  | [], _ => by simp [ttot]
  | r :: rs, h => by
    have ih := ttot_map (a := a) hf rs fun q hq => h q (List.mem_cons_of_mem _ hq)
    show (if (f r).1 < a then (nextB a (rs.map f) - (f r).1) * d (f r) else 0) + ttot a d (rs.map f) = k * ((if r.1 < a then (nextB a rs - r.1) * c r else 0) + ttot a c rs)
    rw [ih, hf, next_map hf, h r List.mem_cons_self, Int.mul_add]
    congr 1
    split
    · generalize (nextB a rs - r.1 : Int) = z
      rw [← Int.mul_assoc, ← Int.mul_assoc, Int.mul_comm z k]
    · simp
theorem below_map {a : Int} {f : SRow → SRow} (hf : ∀ r, (f r).1 = r.1) (rs : List SRow) : below (rs.map f) a = below rs a := by
  unfold below
  rw [List.filter_map, List.length_map]
  congr 2
  funext r
  show decide ((f r).1 < a) = _
  rw [hf]
theorem lcm_dvd {rs : List SRow} (h : OkR rs) : 0 < (lcmR rs : Int) ∧ ∀ r ∈ rs, r.2.2 ∣ (lcmR rs : Int) := ⟨by have := h.l.pos; omega, h.l.dvd⟩
theorem turned_tax {w : Str} {rs : List SRow} (hw : isW w) (hn : w ≠ wNear) (h : OkR rs) (a : Int) : taxV (wT w) (rs.map negR) a = -(taxV w rs a) := by
  by_cases g : a ≤ 0
  · unfold taxV
    rw [if_pos g, if_pos g]; rfl
  · obtain ⟨hp, hd⟩ := lcm_dvd h
    rw [taxV_any hw h hp hd (by omega), taxV_any (isW_T hw) (neg_okR h) hp (fun q hq => by
      obtain ⟨r, hr, rfl⟩ := List.mem_map.mp hq
      exact hd r hr) (by omega)]
    rw [ttot_map (k := -1) (f := negR) (c := fun r => r.2.1 * ((lcmR rs : Int) / r.2.2)) (fun _ => rfl) rs fun r _ => by
      show -r.2.1 * ((lcmR rs : Int) / r.2.2) = -1 * (r.2.1 * ((lcmR rs : Int) / r.2.2))
      rw [Int.neg_mul, Int.neg_mul, Int.one_mul], Int.neg_mul, Int.one_mul]
    exact rnd_T hw hn _ _
/-! at a border -/
structure Cut (rs : List SRow) (b : Int) (pre : List SRow) (l : SRow) (hi : List SRow) : Prop where
  e : rs = pre ++ l :: hi
  le : l.1 ≤ b
  p : ∀ r ∈ pre, r.1 < l.1
  h : ∀ r ∈ hi, b < r.1
theorem cut_ok {rs : List SRow} (h : OkR rs) {b : Int} (hb : 0 ≤ b) : ∃ pre l hi, Cut rs b pre l hi := by
  obtain ⟨r, t, e, h0⟩ := h.b0
  obtain ⟨pre, l, hi, h1, h2, h3, h4⟩ := cut_at (b := b) rs h.inc ⟨r, t, e, by omega⟩
  exact ⟨pre, l, hi, h1, h2, h3, h4⟩
theorem Cut.lo {rs pre hi : List SRow} {b : Int} {l : SRow} (c : Cut rs b pre l hi) : rs.filter (fun r => decide (r.1 ≤ b)) = pre ++ [l] := by
  have := c.le
  rw [c.e, List.filter_append, List.filter_eq_self.mpr fun r hr => by
    have := c.p r hr
    simp; omega, List.filter_cons_of_pos (by simpa using c.le), List.filter_eq_nil_iff.mpr fun r hr => by
    have := c.h r hr
    simp; omega]
theorem Cut.hi {rs pre hi : List SRow} {b : Int} {l : SRow} (c : Cut rs b pre l hi) : rs.filter (fun r => decide (b < r.1)) = hi := by
  have := c.le
  rw [c.e, List.filter_append, List.filter_eq_nil_iff.mpr fun r hr => by
    have := c.p r hr
    simp; omega, List.filter_cons_of_neg (by simp; omega), List.filter_eq_self.mpr fun r hr => by
    have := c.h r hr
    simpa using this]
  rfl
theorem sl_row (r : SRow) : slX (rowD r) (some 1) none = some (.tup [.int r.2.1, .int r.2.2]) := slX1_t _
theorem opAdd1 (x : D) (xs : List D) (h : xs.length ≤ 16) : opAdd (.tup [x]) (.tup xs) = some (.tup (x :: xs)) := opAdd_tt (by simp; omega)
theorem ix_row0 (r : SRow) : ixD (rowD r) (.v (.int 0)) = some (.int r.1) := ix_t0 _ _
theorem beyond_ok {w : Str} {rs pre hi : List SRow} {b : Int} {l : SRow} (h : rs.length ≤ 8) (c : Cut rs b pre l hi) : p__law_beyond (scD w rs) (.v (.int b)) = .ok (scD w ((0, l.2) :: hi.map (shR b))) := by
  have l1 : lcGo (p__law_beyond_l1 (.v (.int b))) (rs.map rowD) = .ok ((rs.filter fun r => decide (r.1 ≤ b)).map rowD) := lc_filter (by omega) fun r _ => by
    by_cases g : r.1 ≤ b
    · simp [p__law_beyond_l1, ix_row0, g]
    · simp [p__law_beyond_l1, ix_row0, g]
  have l2 : lcGo (p__law_beyond_l2 (.v (.int b))) (rs.map rowD) = .ok ((rs.filter fun r => decide (b < r.1)).map fun r => rowD (shR b r)) := lc_filter (by omega) fun r _ => by
    have e : opAdd (.tup [.int (r.1 - b)]) (.tup [.int r.2.1, .int r.2.2]) = some (rowD (shR b r)) := opAdd1 _ _ (by simp)
    by_cases g : b < r.1
    · simp [p__law_beyond_l2, ix_row0, sl_row, e, g]
    · simp [p__law_beyond_l2, ix_row0, g]
  rw [c.lo] at l1
  rw [c.hi] at l2
  have il : ixD (.lst ((pre ++ [l]).map rowD)) (.v (.int (-1))) = some (rowD l) := by rw [List.map_append]; exact ix_last _ _
  have a1 : opAdd (.tup [.int 0]) (.tup [.int l.2.1, .int l.2.2]) = some (rowD (0, l.2)) := opAdd1 _ _ (by simp)
  have lh : hi.length ≤ 8 := by rw [c.e] at h; simp at h; omega
  have a2 : opAdd (.tup [rowD (0, l.2)]) (.tup (hi.map fun r => rowD (shR b r))) = some (.tup (rowD (0, l.2) :: hi.map fun r => rowD (shR b r))) := opAdd1 _ _ (by simp; omega)
  have sl := sl_row l
  have e : scD w ((0, l.2) :: hi.map (shR b)) = .tup [.str w, .tup (rowD (0, l.2) :: hi.map fun r => rowD (shR b r))] := by
    unfold scD; rw [List.map_cons, List.map_map]; rfl
  rw [e]
  simp only [p__law_beyond, scD, un2_t, itemsOf_t, Re.ofO_some, l1, l2, Re.bind_ok, opNeg_i, il, asI_i, sl, a1, tupD_l, a2]
theorem beyond_okR {rs pre hi : List SRow} {b : Int} {l : SRow} (h : OkR rs) (hb : 0 ≤ b) (c : Cut rs b pre l hi) : OkR ((0, l.2) :: hi.map (shR b)) := by
  have hl := h.len
  have hi' := h.inc
  rw [c.e] at hl hi'
  have hlm : l ∈ rs := by rw [c.e]; simp
  have hhm : ∀ r ∈ hi, r ∈ rs := fun r hr => by rw [c.e]; simp [hr]
  refine ⟨by simp at hl ⊢; omega, ⟨_, _, rfl, rfl⟩, ?_, fun q hq => ?_⟩
  · rw [List.pairwise_cons]
    refine ⟨fun q hq => ?_, ?_⟩
    · obtain ⟨r, hr, rfl⟩ := List.mem_map.mp hq
      have := c.h r hr
      show 0 < r.1 - b
      omega
    · rw [List.pairwise_map]
      have := (List.pairwise_append.mp hi').2.1
      refine (List.pairwise_cons.mp this).2.imp fun {x y} z => ?_
      show x.1 - b < y.1 - b
      omega
  · rcases List.mem_cons.mp hq with rfl | hq
    · have := h.rng l hlm
      exact ⟨Int.le_refl _, by show (0 : Int) ≤ 1000000000000; decide, this.2.2⟩
    · obtain ⟨r, hr, rfl⟩ := List.mem_map.mp hq
      have := h.rng r (hhm r hr)
      have z := c.h r hr
      refine ⟨?_, ?_, this.2.2⟩
      · show 0 ≤ r.1 - b; omega
      · show r.1 - b ≤ 1000000000000; omega
theorem both_tax {w : Str} {rs pre hi : List SRow} {a b : Int} {l : SRow} (hw : isW w) (h : OkR rs) (hb : 0 ≤ b) (c : Cut rs b pre l hi) :
    -1 ≤ taxV w rs (if b < a then b else a) + taxV w ((0, l.2) :: hi.map (shR b)) (a - b) - taxV w rs a ∧ taxV w rs (if b < a then b else a) + taxV w ((0, l.2) :: hi.map (shR b)) (a - b) - taxV w rs a ≤ 1 := by
  by_cases g : b < a
  · rw [if_pos g]
    obtain ⟨hp, hd⟩ := lcm_dvd h
    have hk := beyond_okR h hb c
    have hd2 : ∀ r ∈ (0, l.2) :: hi.map (shR b), r.2.2 ∣ (lcmR rs : Int) := fun q hq => by
      rcases List.mem_cons.mp hq with rfl | hq
      · exact hd l (by rw [c.e]; simp)
      · obtain ⟨r, hr, rfl⟩ := List.mem_map.mp hq
        exact hd r (by rw [c.e]; simp [hr])
    rw [taxV_any hw h hp hd hb, taxV_any hw hk hp hd2 (by omega), taxV_any hw h hp hd (show 0 ≤ a by omega)]
    have hi' := h.inc
    have tp := ttot_part (a := a) (b := b) (fun p => p.1 * ((lcmR rs : Int) / p.2)) c.le g c.h pre (by rw [← c.e]; exact hi')
    rw [← c.e] at tp
    rw [← tp]
    exact rnd_add hw hp
  · rw [if_neg g]
    have e : taxV w ((0, l.2) :: hi.map (shR b)) (a - b) = 0 := if_pos (by omega)
    rw [e]
    omega
theorem ins_ok {w : Str} {rs pre hi : List SRow} {b : Int} {l : SRow} (hw : isW w) (h : OkR rs) (hb : 0 ≤ b) (hb2 : b ≤ 1000000000000) (c : Cut rs b pre l hi) : ∃ rs', p__law_with_row (scD w rs) (.v (.int b)) = .ok (scD w rs') ∧ OkR rs' ∧ ∀ a, taxV w rs' a = taxV w rs a := by
  have hl := h.len
  have l1 : lcGo (p__law_with_row_l1 (.v (.int b))) (rs.map rowD) = .ok ((rs.filter fun r => decide (r.1 ≤ b)).map rowD) := lc_filter (by omega) fun r _ => by
    by_cases g : r.1 ≤ b
    · simp [p__law_with_row_l1, ix_row0, g]
    · simp [p__law_with_row_l1, ix_row0, g]
  have l2 : lcGo (p__law_with_row_l2 (.v (.int b))) (rs.map rowD) = .ok ((rs.filter fun r => decide (b < r.1)).map rowD) := lc_filter (by omega) fun r _ => by
    by_cases g : b < r.1
    · simp [p__law_with_row_l2, ix_row0, g]
    · simp [p__law_with_row_l2, ix_row0, g]
  rw [c.lo] at l1
  rw [c.hi] at l2
  have il : ixD (.lst ((pre ++ [l]).map rowD)) (.v (.int (-1))) = some (rowD l) := by rw [List.map_append]; exact ix_last _ _
  have i0 := ix_row0 l
  have bl : bLen [.tup (rs.map rowD)] = some (.int rs.length) := by rw [bLen_t, List.length_map]
  by_cases g : l.1 = b
  · refine ⟨rs, ?_, h, fun _ => rfl⟩
    have q : opEq (.v (.int l.1)) (.v (.int b)) = some true := by rw [opEq_ii, decide_eq_true g]
    simp only [p__law_with_row, scD, un2_t, itemsOf_t, Re.ofO_some, l1, l2, Re.bind_ok, opNeg_i, il, i0, q]
    rfl
  have q : opEq (.v (.int l.1)) (.v (.int b)) = some false := by rw [opEq_ii, decide_eq_false g]
  by_cases g2 : 7 < rs.length
  · refine ⟨rs, ?_, h, fun _ => rfl⟩
    have q2 : opGt (.v (.int rs.length)) (.v (.int 7)) = some true := by
      show some (decide ((7 : Int) < rs.length)) = _
      rw [decide_eq_true (by omega)]
    simp only [p__law_with_row, scD, un2_t, itemsOf_t, Re.ofO_some, l1, l2, Re.bind_ok, opNeg_i, il, i0, q, bl, Option.map_some, q2]
    rfl
  have q2 : opGt (.v (.int rs.length)) (.v (.int 7)) = some false := by
    show some (decide ((7 : Int) < rs.length)) = _
    rw [decide_eq_false (by omega)]
  have sl := sl_row l
  have a1 : opAdd (.tup [.int b]) (.tup [.int l.2.1, .int l.2.2]) = some (rowD (b, l.2)) := opAdd1 _ _ (by simp)
  have lr : rs.length = pre.length + 1 + hi.length := by rw [c.e]; simp; omega
  have a2 : opAdd (.tup ((pre ++ [l]).map rowD)) (.tup [rowD (b, l.2)]) = some (.tup ((pre ++ [l, (b, l.2)]).map rowD)) := by
    rw [opAdd_tt (by simp; omega), List.map_append, List.map_append, List.append_assoc]; rfl
  have a3 : opAdd (.tup ((pre ++ [l, (b, l.2)]).map rowD)) (.tup (hi.map rowD)) = some (.tup ((pre ++ l :: (b, l.2) :: hi).map rowD)) := by
    rw [opAdd_tt (by simp; omega), ← List.map_append, List.append_assoc]; rfl
  have hlm : l ∈ rs := by rw [c.e]; simp
  have hlt : l.1 < b := by have := c.le; omega
  have ok : OkR (pre ++ l :: (b, l.2) :: hi) := by
    refine ⟨by simp; omega, ?_, ?_, fun q hq => ?_⟩
    · obtain ⟨r, t, e, h0⟩ := h.b0
      rw [c.e] at e
      cases pre with
      | nil => cases e; exact ⟨_, _, rfl, h0⟩
      | cons p pre => cases e; exact ⟨_, _, rfl, h0⟩
    · have hi' := h.inc
      rw [c.e, List.pairwise_append, List.pairwise_cons] at hi'
      rw [List.pairwise_append, List.pairwise_cons, List.pairwise_cons]
      refine ⟨hi'.1, ⟨fun q hq => ?_, c.h, hi'.2.1.2⟩, fun x hx y hy => ?_⟩
      · rcases List.mem_cons.mp hq with rfl | hq
        · exact hlt
        · exact hi'.2.1.1 q hq
      · rcases List.mem_cons.mp hy with rfl | hy
        · exact c.p x hx
        · rcases List.mem_cons.mp hy with rfl | hy
          · have := c.p x hx; show x.1 < b; omega
          · exact hi'.2.2 x hx y (by simp [hy])
    · by_cases z : q = (b, l.2)
      · subst z
        exact ⟨hb, hb2, (h.rng l hlm).2.2⟩
      · refine h.rng q ?_
        rw [c.e]
        simp only [List.mem_append, List.mem_cons] at hq ⊢
        rcases hq with hq | hq | hq | hq
        · exact .inl hq
        · exact .inr (.inl hq)
        · exact absurd hq z
        · exact .inr (.inr hq)
  refine ⟨pre ++ l :: (b, l.2) :: hi, ?_, ok, fun a => ?_⟩
  · simp only [p__law_with_row, scD, un2_t, itemsOf_t, Re.ofO_some, l1, l2, Re.bind_ok, opNeg_i, il, i0, q, bl, Option.map_some, q2, asI_i, sl, a1, tupD_l, a2, a3]
    rfl
  · by_cases g3 : a ≤ 0
    · unfold taxV
      rw [if_pos g3, if_pos g3]
    obtain ⟨hp, hd⟩ := lcm_dvd h
    have hd2 : ∀ r ∈ pre ++ l :: (b, l.2) :: hi, r.2.2 ∣ (lcmR rs : Int) := fun q hq => by
      simp only [List.mem_append, List.mem_cons] at hq
      rcases hq with hq | hq | hq | hq
      · exact hd _ (by rw [c.e]; simp [hq])
      · rw [hq]; exact hd l hlm
      · rw [hq]; exact hd l hlm
      · exact hd _ (by rw [c.e]; simp [hq])
    rw [taxV_any hw ok hp hd2 (by omega), taxV_any hw h hp hd (by omega), ttot_ins (q := (b, l.2)) hlt rfl c.h pre, ← c.e]
theorem mono_tax {w : Str} {rs : List SRow} (hw : isW w) (h : OkR rs) (hn : ∀ r ∈ rs, 0 ≤ r.2.1) {a a' : Int} (ha : a ≤ a') : taxV w rs a ≤ taxV w rs a' := by
  obtain ⟨hp, hd⟩ := lcm_dvd h
  have nn : ∀ r ∈ rs, 0 ≤ r.2.1 * ((lcmR rs : Int) / r.2.2) := fun r hr => Int.mul_nonneg (hn r hr) (Int.ediv_nonneg (by omega) (by have := (h.rng r hr).2.2.2.2.1; omega))
  by_cases g : a ≤ 0
  · have e : taxV w rs a = 0 := if_pos g
    rw [e]
    by_cases g' : a' ≤ 0
    · have e : taxV w rs a' = 0 := if_pos g'
      rw [e]; exact Int.le_refl _
    · rw [taxV_any hw h hp hd (by omega), ← rnd_zero hw hp]
      refine rnd_mono hw hp ?_
      have := ttot_mono (a := 0) (a' := a') (by omega) rs h.inc nn
      rw [ttot_zero fun r hr => (h.rng r hr).1] at this
      exact this
  · rw [taxV_any hw h hp hd (by omega), taxV_any hw h hp hd (by omega)]
    exact rnd_mono hw hp (ttot_mono ha rs h.inc nn)
def toR (L : Int) (r : SRow) : SRow := (r.1, r.2.1 * (L / r.2.2), L)
theorem together_okR {rs : List SRow} (h : OkR rs) (h1 : (lcmR rs : Int) ≤ 1000) (h2 : ∀ r ∈ rs, ¬ (1000 < r.2.1 * ((lcmR rs : Int) / r.2.2)) ∧ ¬ (1000 < -(r.2.1 * ((lcmR rs : Int) / r.2.2)))) : OkR (rs.map (toR (lcmR rs))) := by
  obtain ⟨hp, _⟩ := lcm_dvd h
  obtain ⟨r, t, e, h0⟩ := h.b0
  refine ⟨by simpa using h.len, ⟨toR (lcmR rs) r, t.map (toR (lcmR rs)), by conv => { lhs; arg 2; rw [e] }; rfl, h0⟩, ?_, fun q hq => ?_⟩
  · rw [List.pairwise_map]; exact h.inc
  · obtain ⟨r, hr, rfl⟩ := List.mem_map.mp hq
    have z := h2 r hr
    have := h.rng r hr
    refine ⟨this.1, this.2.1, ?_, ?_, ?_, h1⟩
    · show -1000 ≤ r.2.1 * ((lcmR rs : Int) / r.2.2); omega
    · show r.2.1 * ((lcmR rs : Int) / r.2.2) ≤ 1000; omega
    · show 1 ≤ (lcmR rs : Int); omega
theorem together_tax {w : Str} {rs : List SRow} (hw : isW w) (h : OkR rs) (hk : OkR (rs.map (toR (lcmR rs)))) (a : Int) : taxV w (rs.map (toR (lcmR rs))) a = taxV w rs a := by
  by_cases g : a ≤ 0
  · unfold taxV
    rw [if_pos g, if_pos g]
  obtain ⟨hp, hd⟩ := lcm_dvd h
  rw [taxV_any hw h hp hd (by omega), taxV_any hw hk hp (fun q hq => by
    obtain ⟨r, _, rfl⟩ := List.mem_map.mp hq
    exact Int.dvd_refl _) (by omega), ttot_map (k := 1) (f := toR (lcmR rs)) (c := fun r => r.2.1 * ((lcmR rs : Int) / r.2.2)) (fun _ => rfl) rs fun r _ => by
    show r.2.1 * ((lcmR rs : Int) / r.2.2) * ((lcmR rs : Int) / lcmR rs) = 1 * (r.2.1 * ((lcmR rs : Int) / r.2.2))
    rw [Int.ediv_self (by omega), Int.mul_one, Int.one_mul], Int.one_mul]
end Gk13
namespace Gk13
open PySem PySem.Spec PyProof.Rows L2 DM Lv
theorem and_t {r s : Re Bool} {b : Bool} (h1 : r = .ok true) (h2 : s = .ok b) : Re.and r s = .ok b := by rw [h1, h2]; rfl
theorem and_f {r s : Re Bool} (h1 : r = .ok false) : Re.and r s = .ok false := by rw [h1]; rfl
theorem or_t {r s : Re Bool} (h1 : r = .ok true) : Re.or r s = .ok true := by rw [h1]; rfl
theorem or_f {r s : Re Bool} {b : Bool} (h1 : r = .ok false) (h2 : s = .ok b) : Re.or r s = .ok b := by rw [h1, h2]; rfl
theorem chain_t {o : Option Bool} {s : Re Bool} {b : Bool} (h1 : o = some true) (h2 : s = .ok b) : Re.chain o s = .ok b := by rw [h1]; exact h2
theorem le_t {i j : Int} (h : i ≤ j) : opLe (.v (.int i)) (.v (.int j)) = some true := by
  show some (decide (i ≤ j)) = _
  rw [decide_eq_true h]
theorem gt_t {i j : Int} (h : j < i) : opGt (.v (.int i)) (.v (.int j)) = some true := by
  show some (decide (j < i)) = _
  rw [decide_eq_true h]
theorem gt_f {i j : Int} (h : ¬ j < i) : opGt (.v (.int i)) (.v (.int j)) = some false := by
  show some (decide (j < i)) = _
  rw [decide_eq_false h]
theorem ne_f {i j : Int} (h : i = j) : opNe (.v (.int i)) (.v (.int j)) = some false := by
  rw [opNe_ii, decide_eq_true h]; rfl
theorem opAdd_i (i j : Int) : opAdd (.v (.int i)) (.v (.int j)) = some (.int (i + j)) := rfl
theorem dz_rt (L : Nat) (r : SRow) : Dz 1 (rtD L r) := dz_tup fun x hx => by
  simp only [List.mem_cons, List.not_mem_nil, or_false] at hx
  rcases hx with rfl | rfl <;> exact dz_int _
theorem ne_nilL {xs : List D} {k : Nat} (h : ∀ x ∈ xs, Dz k x) (hk : k ≤ 63) : opNe (.lst xs) (.lst []) = some (!xs.isEmpty) := by
  have := eq_nil h hk
  show Option.map (!·) (opEq (.lst xs) (.lst [])) = _
  rw [this]; rfl
theorem right_ok {w : Str} {rs : List SRow} (hw : isW w) (h : OkR rs) {a b : Int} (ha : -(10 ^ 20) ≤ a ∧ a ≤ 10 ^ 20) (hb : 0 ≤ b) (hb2 : b ≤ 1000000000000) : p__law_right (scD w rs) (.v (.int a)) (.v (.int b)) = .ok (.bl true) := by
  have hl := h.len
  obtain ⟨pre, l, hi, c⟩ := cut_ok h hb
  obtain ⟨rs', w1, ok', tx'⟩ := ins_ok hw h hb hb2 c
  have p50 : (10 : Int) ^ 20 + 1000000000001 ≤ 10 ^ 50 := by decide
  have t0 : scales_tax (scD w rs) (.v (.int a)) = .ok (.int (taxV w rs a)) := tax_ok hw h ⟨by omega, by omega⟩
  have tT := turned_ok (w := w) (rs := rs) hw hl
  have t1 : scales_tax (scD (wT w) (rs.map negR)) (.v (.int a)) = .ok (.int (taxV (wT w) (rs.map negR) a)) := tax_ok (isW_T hw) (neg_okR h) ⟨by omega, by omega⟩
  have tt := fun hn => turned_tax hw hn h a
  have t2 : scales_tax (scD w rs') (.v (.int a)) = .ok (.int (taxV w rs a)) := by rw [← tx' a]; exact tax_ok hw ok' ⟨by omega, by omega⟩
  have s2 := is_scale_ok hw ok'
  have t3 : scales_tax (scD w rs) (.v (.int (if b < a then b else a))) = .ok (.int (taxV w rs (if b < a then b else a))) := tax_ok hw h ⟨by split <;> omega, by split <;> omega⟩
  have by1 := beyond_ok (w := w) hl c
  have t4 : scales_tax (scD w ((0, l.2) :: hi.map (shR b))) (.v (.int (a - b))) = .ok (.int (taxV w ((0, l.2) :: hi.map (shR b)) (a - b))) := tax_ok hw (beyond_okR h hb c) ⟨by omega, by omega⟩
  obtain ⟨q1, q2⟩ := both_tax (a := a) hw h hb c
  have t5 : scales_tax (scD w rs) (.v (.int (a - 1))) = .ok (.int (taxV w rs (a - 1))) := tax_ok hw h ⟨by omega, by omega⟩
  have t6 : scales_tax (scD w rs) (.v (.int (a + 1))) = .ok (.int (taxV w rs (a + 1))) := tax_ok hw h ⟨by omega, by omega⟩
  have i0 : ixD (scD w rs) (.v (.int 0)) = some (.v (.str w)) := ix_t0 _ _
  have i1 : ixD (scD w rs) (.v (.int 1)) = some (.tup (rs.map rowD)) := ix_t1 _ _ _
  have mn : (bMin [.v (.int a), .v (.int b)]).map D.v = some (.v (.int (if b < a then b else a))) := rfl
  -- rates below nought
  have lc1 : lcGo p__law_right_l1 (rs.map rowD) = .ok ((rs.filter fun r => decide (r.2.1 < 0)).map rowD) := lc_filter (by omega) fun r _ => by
    have e : ixD (rowD r) (.v (.int 1)) = some (.int r.2.1) := ix_t1 _ _ _
    by_cases g : r.2.1 < 0
    · simp [p__law_right_l1, e, g]
    · simp [p__law_right_l1, e, g]
  have en := eq_nil (xs := (rs.filter fun r => decide (r.2.1 < 0)).map rowD) (k := 1) (fun x hx => by obtain ⟨r, _, rfl⟩ := List.mem_map.mp hx; exact dz_row r) (by omega)
  have mono : ((rs.filter fun r => decide (r.2.1 < 0)).map rowD).isEmpty = true → taxV w rs (a - 1) ≤ taxV w rs a ∧ taxV w rs a ≤ taxV w rs (a + 1) := fun z => by
    have hn : ∀ r ∈ rs, 0 ≤ r.2.1 := fun r hr => by
      have : (rs.filter fun r => decide (r.2.1 < 0)) = [] := by simpa using z
      rw [List.filter_eq_nil_iff] at this
      have := this r hr
      simpa using this
    exact ⟨mono_tax hw h hn (by omega), mono_tax hw h hn (by omega)⟩
  -- rows together
  have st : scales_scale_together (scD w rs) = .ok (.tup [.str w, .int (lcmR rs : Nat), .tup (rs.map (rtD (lcmR rs)))]) := by
    simp [scales_scale_together, need_scale_ok hw h, own_together_ok h]
  have lc2 : lcGo p__law_right_l2 (rs.map (rtD (lcmR rs))) = .ok ((rs.filter fun r => decide (1000 < r.2.1 * ((lcmR rs : Int) / r.2.2) ∨ 1000 < -(r.2.1 * ((lcmR rs : Int) / r.2.2)))).map (rtD (lcmR rs))) := lc_filter (by omega) fun r _ => by
    have e : ixD (rtD (lcmR rs) r) (.v (.int 1)) = some (.int (r.2.1 * ((lcmR rs : Int) / r.2.2))) := ix_t1 _ _ _
    generalize r.2.1 * ((lcmR rs : Int) / r.2.2) = z at *
    have ab : bAbs [.v (.int z)] = some (.int (if z < 0 then -z else z)) := rfl
    by_cases g : 1000 < z ∨ 1000 < -z
    · have g2 : (1000 : Int) < (if z < 0 then -z else z) := by split <;> omega
      have g3 := gt_t g2
      simp [p__law_right_l2, e, ab, g, g3]
    · have g2 : ¬ (1000 : Int) < (if z < 0 then -z else z) := by split <;> omega
      have g3 := gt_f g2
      simp [p__law_right_l2, e, ab, g, g3]
  have en2 := ne_nilL (xs := (rs.filter fun r => decide (1000 < r.2.1 * ((lcmR rs : Int) / r.2.2) ∨ 1000 < -(r.2.1 * ((lcmR rs : Int) / r.2.2)))).map (rtD (lcmR rs))) (k := 1) (fun x hx => by obtain ⟨r, _, rfl⟩ := List.mem_map.mp hx; exact dz_rt _ r) (by omega)
  have tog : (lcmR rs : Int) ≤ 1000 → ((rs.filter fun r => decide (1000 < r.2.1 * ((lcmR rs : Int) / r.2.2) ∨ 1000 < -(r.2.1 * ((lcmR rs : Int) / r.2.2)))).map (rtD (lcmR rs))).isEmpty = true → scales_tax (.tup [.str w, .tup ((rs.map (toR (lcmR rs))).map rowD)]) (.v (.int a)) = .ok (.int (taxV w rs a)) := fun z1 z2 => by
    have hk := together_okR h z1 fun r hr => by
      have : (rs.filter fun r => decide (1000 < r.2.1 * ((lcmR rs : Int) / r.2.2) ∨ 1000 < -(r.2.1 * ((lcmR rs : Int) / r.2.2)))) = [] := by simpa using z2
      rw [List.filter_eq_nil_iff] at this
      have := this r hr
      rw [decide_eq_true_eq] at this
      exact ⟨fun q => this (.inl q), fun q => this (.inr q)⟩
    rw [← together_tax hw h hk a]
    exact tax_ok hw hk ⟨by omega, by omega⟩
  have lc3 : lcGo (p__law_right_l3 (.int (lcmR rs : Nat))) (rs.map (rtD (lcmR rs))) = .ok ((rs.map (toR (lcmR rs))).map rowD) := by
    rw [List.map_map]
    exact lc_map (by omega) fun r _ => by
      have e : opAdd (rtD (lcmR rs) r) (.tup [.int (lcmR rs : Nat)]) = some (rowD (toR (lcmR rs) r)) := opAdd_tt (by simp)
      show Re.ofO _ _ = _
      rw [e]; rfl
  have nr : opNe (.v (.str w)) (.v (.str "near")) = some (!decide (w = wNear)) := rfl
  generalize (rs.filter fun r => decide (1000 < r.2.1 * ((lcmR rs : Int) / r.2.2) ∨ 1000 < -(r.2.1 * ((lcmR rs : Int) / r.2.2)))).map (rtD (lcmR rs)) = Z2 at *
  generalize (rs.filter fun r => decide (r.2.1 < 0)).map rowD = Z1 at *
  generalize rs.map (rtD (lcmR rs)) = Y at *
  generalize (rs.map (toR (lcmR rs))).map rowD = Y2 at *
  generalize rs.map rowD = X at *
  generalize lcmR rs = L at *
  generalize scD w rs = S at *
  generalize scD w rs' = S' at *
  generalize scD (wT w) (rs.map negR) = ST at *
  generalize scD w ((0, l.2) :: hi.map (shR b)) = SB at *
  generalize taxV (wT w) (rs.map negR) a = TT at *
  generalize taxV w ((0, l.2) :: hi.map (shR b)) (a - b) = TB at *
  generalize taxV w rs (if b < a then b else a) = TM at *
  generalize (if b < a then b else a) = m at *
  generalize taxV w rs (a - 1) = T1 at *
  generalize taxV w rs (a + 1) = T2 at *
  generalize taxV w rs a = T at *
  unfold p__law_right
  refine bind_eq t0 (bind_eq tT (bind_eq t1 (bind_eq (a := false) ?_ (ite_f (bind_eq (a := false) ?_ (ite_f (ofO_eq mn (bind_eq t3 (bind_eq by1 (ofO_eq (opSub_ii _ _) (bind_eq t4 (ofO_eq (opAdd_i _ _) (ofO_eq (opNeg_i _) (ofO_eq (opSub_ii _ _) (bind_eq (a := true) ?_ (ite_f (ofO_eq i1 (ofO_eq (itemsOf_t _) (bind_eq lc1 (bind_eq (a := false) ?_ (ite_f (bind_eq st ?_))))))))))))))))))))))
  · -- the turned one
    by_cases g : w = wNear
    · refine and_f (ofO_eq i0 (ofO_eq nr ?_))
      rw [decide_eq_true g]; rfl
    · refine and_t (ofO_eq i0 (ofO_eq nr (by rw [decide_eq_false g]; rfl))) (ofO_eq (opNeg_i _) (ofO_eq (ne_f ?_) rfl))
      have := tt g
      omega
  · exact or_f (bind_eq w1 (bind_eq t2 (ofO_eq (ne_f rfl) rfl))) (bind_eq w1 (bind_eq s2 (ofO_eq (asB_b _) rfl)))
  · exact chain_t (le_t q1) (ofO_eq (le_t q2) rfl)
  · cases g : Z1.isEmpty with
    | false => rw [g] at en; exact and_f (ofO_eq en rfl)
    | true =>
      rw [g] at en
      obtain ⟨z1, z2⟩ := mono g
      exact and_t (ofO_eq en rfl) (ofO_eq (opSub_ii _ _) (bind_eq t5 (bind_eq (chain_t (le_t z1) (ofO_eq (opAdd_i _ _) (bind_eq t6 (ofO_eq (le_t z2) rfl)))) rfl)))
  · show Re.bind (Re.or (Re.ofO (opGt (.v (.int (L : Nat))) (D.int 1000)) fun z47 => .ok z47) (Re.ofO (itemsOf (.tup Y)) fun xs48 => Re.bind (lcGo (p__law_right_l2) xs48) fun xs53 => Re.ofO (opNe (D.lst xs53) (D.lst [])) fun z54 => .ok z54)) _ = _
    by_cases g : (1000 : Int) < (L : Nat)
    · exact bind_eq (or_t (ofO_eq (gt_t g) rfl)) (ite_t rfl)
    · cases g2 : Z2.isEmpty with
      | false => rw [g2] at en2; exact bind_eq (or_f (ofO_eq (gt_f g) rfl) (ofO_eq (itemsOf_t _) (bind_eq lc2 (ofO_eq en2 rfl)))) (ite_t rfl)
      | true =>
        rw [g2] at en2
        have t7 := tog (by omega) g2
        refine bind_eq (or_f (ofO_eq (gt_f g) rfl) (ofO_eq (itemsOf_t _) (bind_eq lc2 (ofO_eq en2 rfl)))) (ite_f (ofO_eq (itemsOf_t _) (bind_eq lc3 (ofO_eq (tupD_l _) (bind_eq t7 (ofO_eq (opEq_ii _ _) ?_))))))
        rw [decide_eq_true rfl]
theorem turn3 {w : Str} {rs : List SRow} (hw : isW w) (h : OkR rs) (hbd : ∀ r ∈ rs, r.1 ≤ 10000000) (s s2 : D) {r : SRow} (hr : r ∈ rs) {n : Int} (n0 : 0 ≤ n) (n1 : n < 306783379) {a : Int} (ha : -(10 ^ 20) ≤ a ∧ a ≤ 10 ^ 20) : p_law_b3 (rowD r) (.v (.int n), s) (scD w rs, s2) (.v (.int a)) () = .ok (.nx ()) := by
  have r0 := h.rng r hr
  have rb := hbd r hr
  have i0 : ixD (rowD r) (D.int 0) = some (.v (.int r.1)) := ix_row0 r
  have d2 : opFdiv (.v (.int r.1)) (D.int 2) = some (.v (.int (r.1 / 2))) := opFdiv_l (by decide +kernel)
  have d7 : opFdiv (.v (.int n)) (D.int 7) = some (.v (.int (n / 7))) := opFdiv_l (by decide +kernel)
  obtain ⟨b, hb, eb⟩ := ix_intm [r.1 + n % 7, n % 1000, r.1 / 2] 3 rfl (by decide) (n / 7)
  have eb : ixD (.lst [.v (.int (r.1 + n % 7)), .v (.int (n % 1000)), .v (.int (r.1 / 2))]) (.v (.int (n / 7 % 3))) = some (.v (.int b)) := eb
  have hb2 : 0 ≤ b ∧ b ≤ 1000000000000 := by
    simp only [List.mem_cons, List.not_mem_nil, or_false] at hb
    omega
  have rt := right_ok hw h ha hb2.1 hb2.2
  have b1 : scales_bracket (scD w rs) (.v (.int a)) = _ := bracket_ok hw h a
  have tT := turned_ok (w := w) (rs := rs) hw h.len
  have b2 : scales_bracket (scD (wT w) (rs.map negR)) (.v (.int a)) = _ := bracket_ok (isW_T hw) (neg_okR h) a
  rw [below_map (f := negR) (fun _ => rfl)] at b2
  have ne : opNe (if a ≤ 0 then D.non else .int ((below rs a : Nat) - 1)) (if a ≤ 0 then D.non else .int ((below rs a : Nat) - 1)) = some false := by
    split
    · rfl
    · exact ne_f rfl
  generalize (if a ≤ 0 then D.non else D.int ((below rs a : Nat) - 1)) = U at *
  unfold p_law_b3
  refine ofO_eq i0 (ofO_eq (opMod_l (by decide)) (ofO_eq (opAdd_i _ _) (ofO_eq (opMod_l (by decide)) (ofO_eq i0 (ofO_eq d2 (ofO_eq d7 (ofO_eq (opMod_l (by decide)) (ofO_eq eb (bind_eq rt (ofO_eq (asB_b _) (ite_f (bind_eq b1 (bind_eq tT (bind_eq b2 (ofO_eq ne (ite_f rfl))))))))))))))))
theorem turn2 {w : Str} {rs : List SRow} (hw : isW w) (h : OkR rs) (hbd : ∀ r ∈ rs, r.1 ≤ 10000000) (s s2 : D) {r : SRow} (hr : r ∈ rs) {n : Int} (n0 : 0 ≤ n) (n1 : n < 306783379) : p_law_b2 (.v (.int n), s) (scD w rs, s2) (rowD r) () = .ok (.nx ()) := by
  have r0 := h.rng r hr
  have rb := hbd r hr
  have i0 : ixD (rowD r) (D.int 0) = some (.v (.int r.1)) := ix_row0 r
  have lp : forR (p_law_b3 (rowD r) (.v (.int n), s) (scD w rs, s2)) [.v (.int r.1), .v (.int (r.1 + 1)), .v (.int (r.1 + n % 500)), .v (.int n), .v (.int (-3))] () = .ok (.nx ()) := forR_all fun d hd => by
    simp only [List.mem_cons, List.not_mem_nil, or_false] at hd
    rcases hd with rfl | rfl | rfl | rfl | rfl
    · exact turn3 hw h hbd s s2 hr n0 n1 ⟨by omega, by omega⟩
    · exact turn3 hw h hbd s s2 hr n0 n1 ⟨by omega, by omega⟩
    · exact turn3 hw h hbd s s2 hr n0 n1 ⟨by omega, by omega⟩
    · exact turn3 hw h hbd s s2 hr n0 n1 ⟨by omega, by omega⟩
    · exact turn3 hw h hbd s s2 hr n0 n1 ⟨by omega, by omega⟩
  unfold p_law_b2
  refine ofO_eq i0 (ofO_eq i0 (ofO_eq (opAdd_i _ _) (ofO_eq i0 (ofO_eq (opMod_l (by decide)) (ofO_eq (opAdd_i _ _) (ofO_eq (opNeg_i _) (ofO_eq (itemsOf_t _) (esc_eq lp rfl))))))))
theorem turn (ns : List Int) (hns : ns.length ≤ 63) (d : D) (k : Int) (h0 : 0 ≤ k) (h1 : k ≤ 700000) : Sat (p_law_b1 (.scr ns) d (.lst [.int k])) fun f => ∃ k', f = .nx (.lst [.int k']) ∧ k ≤ k' ∧ k' ≤ k + 30 := by
  obtain ⟨c, ec, w, rs, k', rfl, hw, ok, hbd, g1, g2⟩ := scale_ok ns hns k h0 (by omega)
  obtain ⟨n, n0, n1, c1⟩ := cell ns hns k' (by omega) (by omega)
  have i1 : ixD (scD w rs) (.v (.int 1)) = some (.tup (rs.map rowD)) := ix_t1 _ _ _
  have lp : forR (p_law_b2 (.v (.int n), .lst [.int (k' + 1)]) (scD w rs, .lst [.int k'])) (rs.map rowD) () = .ok (.nx ()) := forR_all fun d hd => by
    obtain ⟨r, hr, rfl⟩ := List.mem_map.mp hd
    exact turn2 hw ok hbd _ _ hr n0 n1
  refine ⟨.nx (.lst [.int (k' + 1)]), ?_, k' + 1, rfl, by omega, by omega⟩
  unfold p_law_b1
  exact bind_eq ec (bind_eq c1 (ofO_eq i1 (ofO_eq (itemsOf_t _) (esc_eq lp rfl))))
theorem plain (ns : List Int) (hl : ns.length ≤ 63) : p_law (.scr ns) = .ok (.bl true) := by
  obtain ⟨j, hj, j0, j1⟩ : ∃ j : Int, bMin [.v (.int 20), .v (.int ns.length)] = some (.int j) ∧ 0 ≤ j ∧ j ≤ 20 := ⟨_, bMin_i _ _, by split <;> omega, by split <;> omega⟩
  have rg := rng_nat (n := 6 + j) (by omega) (by omega)
  have rg : rngOf [.v (.int (6 + j))] = _ := rg
  obtain ⟨f, ef, b, rfl, _⟩ := Sat.forR (B := p_law_b1 (.scr ns)) (fun i b => ∃ k : Int, b = .lst [.int k] ∧ 0 ≤ k ∧ k ≤ 30 * i) (ds := (List.range (6 + j).toNat).map fun (k : Nat) => D.int (k : Int)) (i := 0) (b := .lst [.int 0]) ⟨0, rfl, by decide, by decide⟩ fun i d b hd hb => by
    obtain ⟨k, rfl, k0, k1⟩ := hb
    have hi := (List.getElem?_eq_some_iff.mp hd).1
    rw [List.length_map, List.length_range] at hi
    obtain ⟨f, ef, k', rfl, g1, g2⟩ := turn ns hl d k k0 (by omega)
    exact ⟨_, ef, _, rfl, k', rfl, by omega, by omega⟩
  have ln : (bLen [.scr ns]).map D.v = some (.v (.int (ns.length : Int))) := rfl
  generalize (List.range (6 + j).toNat).map (fun (k : Nat) => D.int (k : Int)) = R at *
  have hj' : (bMin [.v (.int 20), .v (.int ns.length)]).map D.v = some (.v (.int j)) := by rw [hj]; rfl
  unfold p_law
  exact ofO_eq (irr_of ln) (ofO_eq hj' (ofO_eq (opAdd_i _ _) (ofO_eq rg (esc_eq ef rfl))))
theorem fin (ns : List Int) (hl : ns.length ≤ 63) : ∃ ds, mf_law [.scr ns] = .ok (.bl true) ds := by
  have h := lk_law (.scr ns)
  rw [plain ns hl] at h
  exact h
end Gk13
theorem PySem.Challenge.cw_leviesbook_k13_whole_taxes_turned_and_pa_holds : PySem.Challenge.rw_leviesbook_k13_whole_taxes_turned_and_pa.Holds := by
  exact Gk13.law_from fun ns hl _ => Gk13.fin ns hl
