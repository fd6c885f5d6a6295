import PyProof.Rows.All
import Wide.All
import OpenK.AllK
import Wide.FinOn
import HandS.ForSpec
import HandS.ForMost
import HandS.TupAny
import HandS.TupMul
import HandS.Wide
import HandS.IsInst
import HandS.Deep
import HandS.Defaults
import HandS.Style
import HandS.Iter
import HandS.Comp
import HandS.HeadHook2
import HandS.HeadHook3
import HandS.HeadHook4
import HandS.EndBits
import HandS.RaiseMore
import HandS.Text
import HandS.Zip
import HandS.Head2
import PySem.Challenge.RW_leviesbook_k19_pools_year_by_year
set_option Elab.async false
set_option linter.all false
set_option maxRecDepth 100000
set_option maxHeartbeats 4000000
/-! DmA: data D, how it lies in the abstract heap (Rp), owned data (Ow), a frame's slots (EnvR), steps of the heap. -/
namespace DM
open PySem PySem.Spec PyProof.Rows L2

/-- data: a value without parts, a list, a tuple, a dict (its pairs in order), the script -/
inductive D where
  | v (x : V)
  | lst (xs : List D)
  | tup (xs : List D)
  | dct (kvs : List (D × D))
  | scr (ns : List Int)

abbrev D.int (i : Int) : D := .v (.int i)
abbrev D.bl (b : Bool) : D := .v (.bl b)
abbrev D.str (s : Str) : D := .v (.str s)
abbrev D.non : D := .v .non

abbrev FS := Addr → Prop

/-- a tuple of the module's own top -/
def ModT (K : PySem.W.Frag) (a : Addr) (xs : List V) : Prop :=
  ∃ (o : Obj) (its : Array Value) (n : Nat), K.lookup a = some o ∧ o.cls = .type "tuple" ∧ o.data = .seq its n ∧ its.size ≤ sizeLine ∧ Vals xs its.toList
/-- a tuple that stays -/
def TupF (K : PySem.W.Frag) (F : FS) (H : Hp) (a : Addr) (xs : List V) : Prop := (F a ∧ Rd H a (.tup xs)) ∨ ModT K a xs
theorem TupF.sq {K F H a xs} (h : TupF K F H a xs) : SqT K H a xs := by
  rcases h with ⟨_, h⟩ | h
  · exact .inl h
  · exact .inr h

/-- a list of the module's own top -/
def ModL (K : PySem.W.Frag) (a : Addr) (xs : List V) : Prop :=
  ∃ (o : Obj) (its : Array Value) (n : Nat), K.lookup a = some o ∧ o.cls = .type "list" ∧ o.dict = none ∧ o.data = .seq its n ∧ its.size ≤ sizeLine ∧ Vals xs its.toList
/-- a list that stays (the script) -/
def LstF (K : PySem.W.Frag) (F : FS) (H : Hp) (a : Addr) (xs : List V) : Prop := (F a ∧ Rd H a (.lst xs)) ∨ ModL K a xs
theorem LstF.sq {K F H a xs} (h : LstF K F H a xs) : SqL K H a xs := by
  rcases h with ⟨_, h⟩ | h
  · exact .inl h
  · exact .inr h

/-- a key as data -/
inductive KeyD : Key → D → Prop
  | int (i : Int) : KeyD (.inl i) (.v (.int i))
  | str (x : Str) : KeyD (.inr x) (.v (.str x))
inductive KeysD : List Key → List D → Prop
  | nil : KeysD [] []
  | cons {k d ks ds} : KeyD k d → KeysD ks ds → KeysD (k :: ks) (d :: ds)

mutual
/-- v is d by the heap H, all objects of it among those that stay (F) -/
inductive Rp (K : PySem.W.Frag) (F : FS) (H : Hp) : V → D → Prop
  | v (x : V) : Rp K F H x (.v x)
  | lst {a : Addr} {vs : List V} {ds : List D} : F a → H a = some (.lst vs) → Rps K F H vs ds → Rp K F H (.ref a) (.lst ds)
  | tup {a : Addr} {vs : List V} {ds : List D} : TupF K F H a vs → Rps K F H vs ds → Rp K F H (.ref a) (.tup ds)
  | dK {a : Addr} {kvs : List (Key × V)} {ds : List (D × D)} : F a → Rd H a (.dK kvs) → RpK K F H kvs ds → Rp K F H (.ref a) (.dct ds)
  | dT {a : Addr} {kvs : List (List Key × V)} {ds : List (D × D)} : F a → Rd H a (.dT kvs) → RpT K F H kvs ds → Rp K F H (.ref a) (.dct ds)
  | scr {a : Addr} {ns : List Int} : LstF K F H a (ns.map V.int) → Rp K F H (.ref a) (.scr ns)
inductive Rps (K : PySem.W.Frag) (F : FS) (H : Hp) : List V → List D → Prop
  | nil : Rps K F H [] []
  | cons {v : V} {d : D} {vs : List V} {ds : List D} : Rp K F H v d → Rps K F H vs ds → Rps K F H (v :: vs) (d :: ds)
inductive RpK (K : PySem.W.Frag) (F : FS) (H : Hp) : List (Key × V) → List (D × D) → Prop
  | nil : RpK K F H [] []
  | cons {k : Key} {v : V} {dk d : D} {r : List (Key × V)} {ds : List (D × D)} : KeyD k dk → Rp K F H v d → RpK K F H r ds → RpK K F H ((k, v) :: r) ((dk, d) :: ds)
inductive RpT (K : PySem.W.Frag) (F : FS) (H : Hp) : List (List Key × V) → List (D × D) → Prop
  | nil : RpT K F H [] []
  | cons {k : List Key} {v : V} {dk : List D} {d : D} {r : List (List Key × V)} {ds : List (D × D)} : KeysD k dk → Rp K F H v d → RpT K F H r ds → RpT K F H ((k, v) :: r) ((.tup dk, d) :: ds)
end

section
variable {K : PySem.W.Frag} {F F' : FS} {H H' : Hp}
/-- what Rp leans on stays -/
structure Fut (F : FS) (H : Hp) (F' : FS) (H' : Hp) : Prop where
  f : ∀ a, F a → F' a
  l : ∀ a xs, F a → H a = some (.lst xs) → H' a = some (.lst xs)
  r : ∀ a u, F a → Rd H a u → Rd H' a u
theorem TupF.mono {a xs} (m : Fut F H F' H') (h : TupF K F H a xs) : TupF K F' H' a xs := by
  rcases h with ⟨f, h⟩ | h
  · exact .inl ⟨m.f a f, m.r a _ f h⟩
  · exact .inr h
theorem LstF.mono {a xs} (m : Fut F H F' H') (h : LstF K F H a xs) : LstF K F' H' a xs := by
  rcases h with ⟨f, h⟩ | h
  · exact .inl ⟨m.f a f, m.r a _ f h⟩
  · exact .inr h
mutual
theorem Rp.mono (m : Fut F H F' H') : ∀ {v d}, Rp K F H v d → Rp K F' H' v d
  | _, _, .v x => .v x
  | _, _, .lst f h r => .lst (m.f _ f) (m.l _ _ f h) (Rps.mono m r)
  | _, _, .tup h r => .tup (h.mono m) (Rps.mono m r)
  | _, _, .dK f h r => .dK (m.f _ f) (m.r _ _ f h) (RpK.mono m r)
  | _, _, .dT f h r => .dT (m.f _ f) (m.r _ _ f h) (RpT.mono m r)
  | _, _, .scr h => .scr (h.mono m)
theorem Rps.mono (m : Fut F H F' H') : ∀ {vs ds}, Rps K F H vs ds → Rps K F' H' vs ds
  | _, _, .nil => .nil
  | _, _, .cons h r => .cons (Rp.mono m h) (Rps.mono m r)
theorem RpK.mono (m : Fut F H F' H') : ∀ {vs ds}, RpK K F H vs ds → RpK K F' H' vs ds
  | _, _, .nil => .nil
  | _, _, .cons k h r => .cons k (Rp.mono m h) (RpK.mono m r)
theorem RpT.mono (m : Fut F H F' H') : ∀ {vs ds}, RpT K F H vs ds → RpT K F' H' vs ds
  | _, _, .nil => .nil
  | _, _, .cons k h r => .cons k (Rp.mono m h) (RpT.mono m r)
end
theorem Rps.length : ∀ {vs ds}, Rps K F H vs ds → vs.length = ds.length
  | _, _, .nil => rfl
  | _, _, .cons _ r => congrArg (· + 1) (Rps.length r)
theorem Rps.get : ∀ {vs ds} {i : Nat} {d : D}, Rps K F H vs ds → ds[i]? = some d → ∃ v, vs[i]? = some v ∧ Rp K F H v d
  | _, _, i, d, .nil, h => by simp at h
  | _, _, 0, d, .cons h r, e => by simp at e; subst e; exact ⟨_, rfl, h⟩
  | _, _, i + 1, d, .cons h r, e => by
    obtain ⟨v, a, b⟩ := Rps.get (i := i) (d := d) r (by simpa using e)
    exact ⟨v, by simpa using a, b⟩
theorem Rps.getV : ∀ {vs ds} {i : Nat} {v : V}, Rps K F H vs ds → vs[i]? = some v → ∃ d, ds[i]? = some d ∧ Rp K F H v d
  | _, _, i, d, .nil, h => by simp at h
  | _, _, 0, d, .cons h r, e => by simp at e; subst e; exact ⟨_, rfl, h⟩
  | _, _, i + 1, d, .cons h r, e => by
    obtain ⟨v, a, b⟩ := Rps.getV (i := i) (v := d) r (by simpa using e)
    exact ⟨v, by simpa using a, b⟩
theorem Rps.app : ∀ {vs ds us es}, Rps K F H vs ds → Rps K F H us es → Rps K F H (vs ++ us) (ds ++ es)
  | _, _, _, _, .nil, s => s
  | _, _, _, _, .cons h r, s => .cons h (Rps.app r s)
theorem Rps.drop : ∀ {vs ds} (n : Nat), Rps K F H vs ds → Rps K F H (vs.drop n) (ds.drop n)
  | _, _, 0, r => r
  | _, _, _ + 1, .nil => .nil
  | _, _, n + 1, .cons _ r => Rps.drop n r
theorem Rps.take : ∀ {vs ds} (n : Nat), Rps K F H vs ds → Rps K F H (vs.take n) (ds.take n)
  | _, _, 0, _ => .nil
  | _, _, _ + 1, .nil => .nil
  | _, _, n + 1, .cons h r => .cons h (Rps.take n r)
theorem Rps.set : ∀ {vs ds} (i : Nat) {v d}, Rps K F H vs ds → Rp K F H v d → Rps K F H (vs.set i v) (ds.set i d)
  | _, _, _, _, _, .nil, _ => .nil
  | _, _, 0, _, _, .cons _ r, h => .cons h r
  | _, _, i + 1, _, _, .cons a r, h => .cons a (Rps.set i r h)
theorem Rps.ints : ∀ (ns : List Int), Rps K F H (ns.map V.int) (ns.map D.int)
  | [] => .nil
  | n :: ns => .cons (.v _) (Rps.ints ns)
theorem Rps.one {v : V} {ds : List D} (h : Rps K F H [v] ds) : ∃ d, ds = [d] ∧ Rp K F H v d := by
  cases h with | cons h r => cases r; exact ⟨_, rfl, h⟩
end

/-! ### owned data -/
/-- fz: stays as it is; any: not known; lst s, dct s: a list, a dict that this frame alone has, its items of the shape s; at v s: the value is v, of shape s -/
inductive Sh where
  | fz | any
  | lst (s : Sh)
  | dct (s : Sh)
  | at_ (v : V) (s : Sh)

/-- three lists side by side; the addresses together -/
def All3 (R : V → D → List Addr → Prop) : List V → List D → List Addr → Prop
  | [], [], A => A = []
  | v :: vs, d :: ds, A => ∃ A1 A2, R v d A1 ∧ All3 R vs ds A2 ∧ A = A1 ++ A2
  | _, _, _ => False
def AllK (R : V → D → List Addr → Prop) : List (Key × V) → List (D × D) → List Addr → Prop
  | [], [], A => A = []
  | p :: vs, q :: ds, A => ∃ A1 A2, KeyD p.1 q.1 ∧ R p.2 q.2 A1 ∧ AllK R vs ds A2 ∧ A = A1 ++ A2
  | _, _, _ => False
def AllT (R : V → D → List Addr → Prop) : List (List Key × V) → List (D × D) → List Addr → Prop
  | [], [], A => A = []
  | p :: vs, q :: ds, A => ∃ A1 A2 dk, KeysD p.1 dk ∧ q.1 = .tup dk ∧ R p.2 q.2 A1 ∧ AllT R vs ds A2 ∧ A = A1 ++ A2
  | _, _, _ => False
/-- v is d, of shape s; A: the addresses that are owned -/
def Ow (K : PySem.W.Frag) (F : FS) (H : Hp) : Sh → V → D → List Addr → Prop
  | .fz, v, d, A => Rp K F H v d ∧ A = []
  | .any, _, _, A => A = []
  | .lst s, v, d, A => ∃ a vs ds B, v = .ref a ∧ d = .lst ds ∧ H a = some (.lst vs) ∧ All3 (Ow K F H s) vs ds B ∧ A = a :: B
  | .dct s, v, d, A => ∃ a ds B, v = .ref a ∧ d = .dct ds ∧ A = a :: B ∧ ((∃ kvs, H a = some (.dK kvs) ∧ AllK (Ow K F H s) kvs ds B) ∨ (∃ kvs, H a = some (.dT kvs) ∧ AllT (Ow K F H s) kvs ds B))
  | .at_ w s, v, d, A => v = w ∧ Ow K F H s v d A

/-- what owned data leans on stays -/
structure Stay (F : FS) (H : Hp) (A : List Addr) (F' : FS) (H' : Hp) : Prop where
  fut : Fut F H F' H'
  own : ∀ a ∈ A, H' a = H a

section
variable {K : PySem.W.Frag} {F F' : FS} {H H' : Hp}
theorem Stay.sub {A B} (m : Stay F H A F' H') (h : ∀ a ∈ B, a ∈ A) : Stay F H B F' H' := ⟨m.fut, fun a ha => m.own a (h a ha)⟩
theorem all3_mono {R R' : V → D → List Addr → Prop} : ∀ {vs ds A}, (∀ v d B, (∀ b ∈ B, b ∈ A) → R v d B → R' v d B) → All3 R vs ds A → All3 R' vs ds A
  | [], [], _, _, h => h
  | _ :: _, _ :: _, A, m, ⟨A1, A2, h1, h2, e⟩ => ⟨A1, A2, m _ _ _ (fun b hb => by rw [e]; exact List.mem_append_left _ hb) h1, all3_mono (fun v d B hB => m v d B fun b hb => by rw [e]; exact List.mem_append_right _ (hB b hb)) h2, e⟩
  | [], _ :: _, _, _, h => h.elim
  | _ :: _, [], _, _, h => h.elim
theorem allK_mono {R R' : V → D → List Addr → Prop} : ∀ {vs ds A}, (∀ v d B, (∀ b ∈ B, b ∈ A) → R v d B → R' v d B) → AllK R vs ds A → AllK R' vs ds A
  | [], [], _, _, h => h
  | _ :: _, _ :: _, A, m, ⟨A1, A2, k, h1, h2, e⟩ => ⟨A1, A2, k, m _ _ _ (fun b hb => by rw [e]; exact List.mem_append_left _ hb) h1, allK_mono (fun v d B hB => m v d B fun b hb => by rw [e]; exact List.mem_append_right _ (hB b hb)) h2, e⟩
  | [], _ :: _, _, _, h => h.elim
  | _ :: _, [], _, _, h => h.elim
theorem allT_mono {R R' : V → D → List Addr → Prop} : ∀ {vs ds A}, (∀ v d B, (∀ b ∈ B, b ∈ A) → R v d B → R' v d B) → AllT R vs ds A → AllT R' vs ds A
  | [], [], _, _, h => h
  | _ :: _, _ :: _, A, m, ⟨A1, A2, dk, k, kd, h1, h2, e⟩ => ⟨A1, A2, dk, k, kd, m _ _ _ (fun b hb => by rw [e]; exact List.mem_append_left _ hb) h1, allT_mono (fun v d B hB => m v d B fun b hb => by rw [e]; exact List.mem_append_right _ (hB b hb)) h2, e⟩
  | [], _ :: _, _, _, h => h.elim
  | _ :: _, [], _, _, h => h.elim
theorem Ow.mono : ∀ {s v d A}, Stay F H A F' H' → Ow K F H s v d A → Ow K F' H' s v d A
  | .fz, _, _, _, m, ⟨r, e⟩ => ⟨r.mono m.fut, e⟩
  | .any, _, _, _, _, h => h
  | .lst s, _, _, A, m, ⟨a, vs, ds, B, ev, ed, h, r, e⟩ => ⟨a, vs, ds, B, ev, ed, by rw [m.own a (by rw [e]; exact List.mem_cons_self)]; exact h,
      all3_mono (fun v d C hC hR => Ow.mono (s := s) (m.sub fun b hb => by rw [e]; exact List.mem_cons_of_mem _ (hC b hb)) hR) r, e⟩
  | .dct s, _, _, A, m, ⟨a, ds, B, ev, ed, e, h⟩ => ⟨a, ds, B, ev, ed, e, by
      have sub : ∀ {C : List Addr}, (∀ b ∈ C, b ∈ B) → Stay F H C F' H' := fun hC => m.sub fun b hb => by rw [e]; exact List.mem_cons_of_mem _ (hC b hb)
      have ea : H' a = H a := m.own a (by rw [e]; exact List.mem_cons_self)
      rcases h with ⟨kvs, h, r⟩ | ⟨kvs, h, r⟩
      · exact .inl ⟨kvs, by rw [ea]; exact h, allK_mono (fun v d C hC hR => Ow.mono (s := s) (sub hC) hR) r⟩
      · exact .inr ⟨kvs, by rw [ea]; exact h, allT_mono (fun v d C hC hR => Ow.mono (s := s) (sub hC) hR) r⟩⟩
  | .at_ w s, _, _, _, m, ⟨ev, h⟩ => ⟨ev, Ow.mono (s := s) m h⟩
end

/-! ### a frame's slots -/
abbrev Env := List (Option D)
def EnvR (K : PySem.W.Frag) (F : FS) (H : Hp) : List Sh → L2.St → Env → List Addr → Prop
  | [], [], [], A => A = []
  | _ :: G, _ :: σ, none :: ρ, A => EnvR K F H G σ ρ A
  | s :: G, some v :: σ, some d :: ρ, A => ∃ A1 A2, Ow K F H s v d A1 ∧ EnvR K F H G σ ρ A2 ∧ A = A1 ++ A2
  | _, _, _, _ => False
/-- F: what stays, A: what is owned -/
structure Wf (F : FS) (H : Hp) (A : List Addr) : Prop where
  f : ∀ a, F a → H a ≠ none
  a : ∀ a ∈ A, H a ≠ none
  nd : A.Nodup
  ap : ∀ a ∈ A, ¬ F a
/-- a step: what isn't owned is kept; more stays; what is owned was owned, or is new -/
structure Stp (F : FS) (H : Hp) (A : List Addr) (F' : FS) (H' : Hp) (A' : List Addr) : Prop where
  f : ∀ a, F a → F' a
  keep : ∀ b o, H b = some o → b ∉ A → H' b = some o
  own : ∀ b ∈ A', b ∈ A ∨ H b = none
  fn : ∀ b, F' b → F b ∨ b ∈ A ∨ H b = none
/-- a step that changes nothing -/
structure Pst (F : FS) (H : Hp) (F' : FS) (H' : Hp) : Prop where
  f : ∀ a, F a → F' a
  keep : ∀ b o, H b = some o → H' b = some o
  new : ∀ a, F' a → F a ∨ (H a = none ∧ H' a ≠ none)

section
variable {K : PySem.W.Frag} {F F' F1 F2 : FS} {H H' H1 H2 : Hp} {A A' A1 A2 : List Addr}
theorem Stp.refl : Stp F H A F H A := ⟨fun _ h => h, fun _ _ h _ => h, fun _ h => .inl h, fun _ h => .inl h⟩
theorem Stp.trans (x : Stp F H A F1 H1 A1) (y : Stp F1 H1 A1 F2 H2 A2) : Stp F H A F2 H2 A2 := by
  have nn : ∀ b, H1 b = none → b ∈ A ∨ H b = none := fun b q => by
    by_cases hA : b ∈ A
    · exact .inl hA
    · refine .inr ?_
      cases e : H b with
      | none => rfl
      | some o => rw [x.keep b o e hA] at q; cases q
  refine ⟨fun a h => y.f a (x.f a h), fun b o e n => y.keep b o (x.keep b o e n) fun z => ?_, fun b hb => ?_, fun b hb => ?_⟩
  · rcases x.own b z with q | q
    · exact n q
    · rw [e] at q; cases q
  · rcases y.own b hb with q | q
    · exact x.own b q
    · exact nn b q
  · rcases y.fn b hb with q | q | q
    · exact x.fn b q
    · exact .inr (x.own b q)
    · exact .inr (nn b q)
theorem Pst.refl : Pst F H F H := ⟨fun _ h => h, fun _ _ h => h, fun _ h => .inl h⟩
theorem Pst.trans (x : Pst F H F1 H1) (y : Pst F1 H1 F2 H2) : Pst F H F2 H2 := by
  refine ⟨fun a h => y.f a (x.f a h), fun b o e => y.keep b o (x.keep b o e), fun a h => ?_⟩
  rcases y.new a h with q | ⟨q, q'⟩
  · rcases x.new a q with z | ⟨z, z'⟩
    · exact .inl z
    · refine .inr ⟨z, fun e => ?_⟩
      cases e1 : H1 a with
      | none => exact z' e1
      | some o => rw [y.keep a o e1] at e; cases e
  · refine .inr ⟨?_, q'⟩
    cases e : H a with
    | none => rfl
    | some o => rw [x.keep a o e] at q; cases q
theorem Rd.mono_of {a u} (h : ∀ o, H a = some o → H' a = some o) (r : Rd H a u) : Rd H' a u := by
  rcases r with r | ⟨o, r⟩
  · exact .inl (h _ r)
  · exact .inr ⟨o, h _ r⟩
theorem Stp.fut (x : Stp F H A F' H' A') (w : Wf F H A) : Fut F H F' H' :=
  ⟨x.f, fun a xs f e => x.keep a _ e fun z => w.ap a z f, fun a u f r => Rd.mono_of (fun o e => x.keep a o e fun z => w.ap a z f) r⟩
theorem Pst.fut (x : Pst F H F' H') : Fut F H F' H' := ⟨x.f, fun a xs _ e => x.keep a _ e, fun a u _ r => Rd.mono_of (fun o e => x.keep a o e) r⟩
theorem Pst.stay (x : Pst F H F' H') (w : ∀ a ∈ A, H a ≠ none) : Stay F H A F' H' := ⟨x.fut, fun a ha => by
  cases e : H a with
  | none => exact absurd e (w a ha)
  | some o => exact x.keep a o e⟩
theorem Pst.stp (x : Pst F H F' H') : Stp F H A F' H' A := ⟨x.f, fun b o e _ => x.keep b o e, fun b hb => .inl hb, fun b hb => (x.new b hb).elim .inl fun z => .inr (.inr z.1)⟩
theorem Pst.wf (x : Pst F H F' H') (w : Wf F H A) : Wf F' H' A := by
  have keepN : ∀ a, H a ≠ none → H' a ≠ none := fun a n e => by
    cases q : H a with
    | none => exact n q
    | some o => rw [x.keep a o q] at e; cases e
  refine ⟨fun a h => ?_, fun a ha => keepN a (w.a a ha), w.nd, fun a ha h => ?_⟩
  · rcases x.new a h with q | ⟨_, q⟩
    · exact keepN a (w.f a q)
    · exact q
  · rcases x.new a h with q | ⟨q, _⟩
    · exact w.ap a ha q
    · exact w.a a ha q
theorem EnvR.mono : ∀ {G : List Sh} {σ : L2.St} {ρ : Env} {A}, Stay F H A F' H' → EnvR K F H G σ ρ A → EnvR K F' H' G σ ρ A
  | [], [], [], _, _, h => h
  | _ :: _, _ :: _, none :: _, _, m, h => by
    have h' := EnvR.mono m (show EnvR K F H _ _ _ _ from by simpa only [EnvR] using h)
    simpa only [EnvR] using h'
  | _ :: _, some _ :: _, some _ :: _, A, m, ⟨A1, A2, h1, h2, e⟩ => ⟨A1, A2, h1.mono (m.sub fun b hb => by rw [e]; exact List.mem_append_left _ hb), EnvR.mono (m.sub fun b hb => by rw [e]; exact List.mem_append_right _ hb) h2, e⟩
  | [], [], _ :: _, _, _, h => by simp [EnvR] at h
  | [], _ :: _, _, _, _, h => by simp [EnvR] at h
  | _ :: _, [], _, _, _, h => by simp [EnvR] at h
  | _ :: _, _ :: _, [], _, _, h => by simp [EnvR] at h
  | _ :: _, none :: _, some _ :: _, _, _, h => by simp [EnvR] at h
theorem EnvR.len : ∀ {G : List Sh} {σ : L2.St} {ρ : Env} {A}, EnvR K F H G σ ρ A → G.length = σ.length ∧ σ.length = ρ.length
  | [], [], [], _, h => ⟨rfl, rfl⟩
  | _ :: _, _ :: _, none :: _, _, h => by
    have := EnvR.len (show EnvR K F H _ _ _ _ from by simpa only [EnvR] using h)
    simp [this]
  | _ :: _, some _ :: _, some _ :: _, A, ⟨A1, A2, h1, h2, e⟩ => by
    have := EnvR.len h2
    simp [this]
  | [], [], _ :: _, _, h => by simp [EnvR] at h
  | [], _ :: _, _, _, h => by simp [EnvR] at h
  | _ :: _, [], _, _, h => by simp [EnvR] at h
  | _ :: _, _ :: _, [], _, h => by simp [EnvR] at h
  | _ :: _, none :: _, some _ :: _, _, h => by simp [EnvR] at h
/-- one slot, and the rest of it -/
theorem EnvR.get : ∀ {G : List Sh} {σ : L2.St} {ρ : Env} {A} {i : Nat} {s : Sh} {d : D}, EnvR K F H G σ ρ A → G[i]? = some s → ρ[i]? = some (some d) → ∃ v B, σ[i]? = some (some v) ∧ Ow K F H s v d B ∧ ∀ b ∈ B, b ∈ A
  | [], [], [], _, i, s, d, h, e, _ => by simp at e
  | _ :: G, _ :: σ, none :: ρ, A, 0, s, d, h, _, e => by simp at e
  | g :: G, x :: σ, none :: ρ, A, i + 1, s, d, h, e, e' => by
    obtain ⟨v, B, a, b, c⟩ := EnvR.get (i := i) (by simpa only [EnvR] using h) (by simpa using e) (by simpa using e')
    exact ⟨v, B, by simpa using a, b, c⟩
  | g :: G, some v :: σ, some d' :: ρ, A, 0, s, d, ⟨A1, A2, h1, h2, eA⟩, e, e' => by
    simp at e e'; subst e; subst e'
    exact ⟨v, A1, rfl, h1, fun b hb => by rw [eA]; exact List.mem_append_left _ hb⟩
  | g :: G, some w :: σ, some d' :: ρ, A, i + 1, s, d, ⟨A1, A2, h1, h2, eA⟩, e, e' => by
    obtain ⟨v, B, a, b, c⟩ := EnvR.get (i := i) h2 (by simpa using e) (by simpa using e')
    exact ⟨v, B, by simpa using a, b, fun x hx => by rw [eA]; exact List.mem_append_right _ (c x hx)⟩
  | [], [], _ :: _, _, _, _, _, h, _, _ => by simp [EnvR] at h
  | [], _ :: _, _, _, _, _, _, h, _, _ => by simp [EnvR] at h
  | _ :: _, [], _, _, _, _, _, h, _, _ => by simp [EnvR] at h
  | _ :: _, _ :: _, [], _, _, _, _, h, _, _ => by simp [EnvR] at h
  | _ :: _, none :: _, some _ :: _, _, _, _, _, h, _, _ => by simp [EnvR] at h
/-- a slot is given another value: the footprint of the elder one is dropped -/
theorem EnvR.set : ∀ {G : List Sh} {σ : L2.St} {ρ : Env} {A} {i : Nat} {s : Sh} {v : V} {d : D} {B : List Addr}, EnvR K F H G σ ρ A → i < G.length → Ow K F H s v d B →
    ∃ A', EnvR K F H (G.set i s) (σ.set i (some v)) (ρ.set i (some d)) A' ∧ (∀ b ∈ A', b ∈ A ∨ b ∈ B) ∧ (A.Nodup → B.Nodup → (∀ b ∈ B, b ∉ A) → A'.Nodup) ∧ (∀ b ∈ B, b ∈ A')
  | [], [], [], _, i, s, v, d, B, h, hi, _ => by simp at hi
  | g :: G, x :: σ, none :: ρ, A, 0, s, v, d, B, h, _, o => by
    refine ⟨B ++ A, ⟨B, A, o, by simpa only [EnvR] using h, rfl⟩, fun b hb => (List.mem_append.mp hb).symm, fun n1 n2 n3 => List.nodup_append.mpr ⟨n2, n1, fun a ha b hb e => n3 a ha (e ▸ hb)⟩, fun b hb => List.mem_append_left _ hb⟩
  | g :: G, x :: σ, none :: ρ, A, i + 1, s, v, d, B, h, hi, o => by
    obtain ⟨A', h1, h2, h3, h4⟩ := EnvR.set (i := i) (by simpa only [EnvR] using h) (by simpa using hi) o
    exact ⟨A', by simpa only [List.set, EnvR] using h1, h2, h3, h4⟩
  | g :: G, some w :: σ, some d' :: ρ, A, 0, s, v, d, B, ⟨A1, A2, h1, h2, eA⟩, _, o => by
    refine ⟨B ++ A2, ⟨B, A2, o, h2, rfl⟩, fun b hb => ?_, fun n1 n2 n3 => ?_, fun b hb => List.mem_append_left _ hb⟩
    · rcases List.mem_append.mp hb with z | z
      · exact .inr z
      · exact .inl (by rw [eA]; exact List.mem_append_right _ z)
    · rw [eA] at n1 n3
      exact List.nodup_append.mpr ⟨n2, (List.nodup_append.mp n1).2.1, fun a ha b hb e => n3 a ha (List.mem_append_right _ (e ▸ hb))⟩
  | g :: G, some w :: σ, some d' :: ρ, A, i + 1, s, v, d, B, ⟨A1, A2, h1, h2, eA⟩, hi, o => by
    obtain ⟨A', g1, g2, g3, g4⟩ := EnvR.set (i := i) h2 (by simpa using hi) o
    refine ⟨A1 ++ A', ⟨A1, A', h1, g1, rfl⟩, fun b hb => ?_, fun n1 n2 n3 => ?_, fun b hb => List.mem_append_right _ (g4 b hb)⟩
    · rcases List.mem_append.mp hb with z | z
      · exact .inl (by rw [eA]; exact List.mem_append_left _ z)
      · rcases g2 b z with q | q
        · exact .inl (by rw [eA]; exact List.mem_append_right _ q)
        · exact .inr q
    · rw [eA] at n1 n3
      obtain ⟨m1, m2, m3⟩ := List.nodup_append.mp n1
      refine List.nodup_append.mpr ⟨m1, g3 m2 n2 fun b hb z => n3 b hb (List.mem_append_right _ z), fun a ha b hb e => ?_⟩
      rcases g2 b hb with q | q
      · exact m3 a ha b q e
      · exact n3 b q (List.mem_append_left _ (e ▸ ha))
  | [], [], _ :: _, _, _, _, _, _, _, h, _, _ => by simp [EnvR] at h
  | [], _ :: _, _, _, _, _, _, _, _, h, _, _ => by simp [EnvR] at h
  | _ :: _, [], _, _, _, _, _, _, _, h, _, _ => by simp [EnvR] at h
  | _ :: _, _ :: _, [], _, _, _, _, _, _, h, _, _ => by simp [EnvR] at h
  | _ :: _, none :: _, some _ :: _, _, _, _, _, _, _, h, _, _ => by simp [EnvR] at h
end
end DM
/-! DmB: outcomes, judgements, names, constants, operators, tests. -/
namespace DM
open PySem PySem.Spec PyProof.Rows L2

/-- an exception: its class by name, its fields -/
structure Xn where
  c : Str
  fs : List (Str × D) := []
inductive Out (α : Type) where
  | ok (a : α) (ρ : Env)
  | exc (x : Xn) (ρ : Env)
  | bad
def Out.bind {α β : Type} : Out α → (α → Env → Out β) → Out β
  | .ok a ρ, k => k a ρ
  | .exc x ρ, _ => .exc x ρ
  | .bad, _ => .bad
@[simp] theorem Out.bind_ok {α β : Type} (a : α) (ρ : Env) (k : α → Env → Out β) : (Out.ok a ρ).bind k = k a ρ := rfl
@[simp] theorem Out.bind_exc {α β : Type} (x : Xn) (ρ : Env) (k : α → Env → Out β) : (Out.exc x ρ : Out α).bind k = .exc x ρ := rfl
@[simp] theorem Out.bind_bad {α β : Type} (k : α → Env → Out β) : (Out.bad : Out α).bind k = .bad := rfl
abbrev Mi (α : Type) := Env → Out α
def ret {α : Type} (a : α) : Mi α := fun ρ => .ok a ρ
/-- what may have no value -/
def lift {α : Type} : Option α → Mi α
  | some a => fun ρ => .ok a ρ
  | none => fun _ => .bad
def bnd {α β : Type} (m : Mi α) (k : α → Mi β) : Mi β := fun ρ => (m ρ).bind k

/-- fields side by side -/
def FsR (K : PySem.W.Frag) (F : FS) (H : Hp) : List (Str × V) → List (Str × D) → Prop
  | [], [] => True
  | p :: vs, q :: ds => p.1 = q.1 ∧ Rp K F H p.2 q.2 ∧ FsR K F H vs ds
  | _, _ => False
/-- an exception as it lies -/
def XR (K : PySem.W.Frag) (mg : Str → Option Value) (F : FS) (H : Hp) (x : Xn) (cls : Value) (dd : Option Addr) : Prop :=
  mg x.c = some cls ∧ match x.fs with
    | [] => dd = none
    | _ :: _ => ∃ d vs, dd = some d ∧ F d ∧ Rd H d (.xd vs) ∧ FsR K F H vs x.fs
theorem FsR.mono {K : PySem.W.Frag} {F F' : FS} {H H' : Hp} (m : Fut F H F' H') : ∀ {vs ds}, FsR K F H vs ds → FsR K F' H' vs ds
  | [], [], _ => trivial
  | _ :: _, _ :: _, ⟨a, b, c⟩ => ⟨a, b.mono m, FsR.mono m c⟩
  | [], _ :: _, h => h.elim
  | _ :: _, [], h => h.elim
theorem XR.mono {K : PySem.W.Frag} {mg : Str → Option Value} {F F' : FS} {H H' : Hp} {x cls dd} (m : Fut F H F' H') (h : XR K mg F H x cls dd) : XR K mg F' H' x cls dd := by
  refine ⟨h.1, ?_⟩
  have h2 := h.2
  split at h2
  · exact h2
  · obtain ⟨d, vs, e, f, r, q⟩ := h2
    exact ⟨d, vs, e, m.f _ f, m.r _ _ f r, q.mono m⟩

/-- the relations of results -/
abbrev Rel (β α : Type) := FS → Hp → β → α → Prop
/-- as a thing stands now, owned or not -/
def Rc (K : PySem.W.Frag) : Rel V D := fun _ H v d => Rp K (fun _ => True) H v d
def RB : Rel Bool Bool := fun _ _ b c => b = c
def RU : Rel Unit Unit := fun _ _ _ _ => True

/-- what is wanted behind an outcome; p: nothing was changed -/
def Pg {α β : Type} (X : Cx) (W : WX) (p : Bool) (R : Rel β α) (G : List Sh) (σ : L2.St) (F : FS) (H : Hp) (A : List Addr) (ρ : Env) (o : Out α) (Q : β → Hp → Prop) : Prop :=
  match o with
  | .ok a ρ' => ∀ b H' F' A', Stp F H A F' H' A' → Wf F' H' A' → EnvR X.K F' H' G σ ρ' A' → R F' H' b a → (p = true → Pst F H F' H' ∧ A' = A ∧ ρ' = ρ) → Q b H'
  | .exc x ρ' => ∀ cls dd H' F' A', Stp F H A F' H' A' → Wf F' H' A' → EnvR X.K F' H' G σ ρ' A' → XR X.K X.mg F' H' x cls dd → (p = true → Pst F H F' H' ∧ A' = A ∧ ρ' = ρ) → W cls dd σ H'
  | .bad => False

/-- the reading t does what m tells -/
def Tl {α β : Type} (X : Cx) (W : WX) (p : Bool) (R : Rel β α) (G : List Sh) (t : L2.St → Hp → (β → Hp → Prop) → Prop) (m : Mi α) : Prop :=
  ∀ F H A σ ρ Q, Wf F H A → EnvR X.K F H G σ ρ A → Pg X W p R G σ F H A ρ (m ρ) Q → t σ H Q

section
variable {X : Cx} {W : WX} {p p1 p2 : Bool} {G : List Sh} {α β γ δ : Type} {R : Rel β α} {R2 : Rel δ γ} {F F1 : FS} {H H1 : Hp} {A A1 : List Addr} {σ : L2.St} {ρ ρ1 : Env}
theorem Pg.after {o : Out α} {Q : β → Hp → Prop} (s : Stp F H A F1 H1 A1) (e : p1 = true → Pst F H F1 H1 ∧ A1 = A ∧ ρ1 = ρ) (h : Pg X W (p1 && p2) R G σ F H A ρ o Q) : Pg X W p2 R G σ F1 H1 A1 ρ1 o Q := by
  have j : ∀ {F' H' A' ρ'}, (p2 = true → Pst F1 H1 F' H' ∧ A' = A1 ∧ ρ' = ρ1) → ((p1 && p2) = true → Pst F H F' H' ∧ A' = A ∧ ρ' = ρ) := fun z q => by
    obtain ⟨q1, q2⟩ := Bool.and_eq_true_iff.mp q
    obtain ⟨a, b, c⟩ := e q1
    obtain ⟨a', b', c'⟩ := z q2
    exact ⟨a.trans a', b'.trans b, c'.trans c⟩
  cases o with
  | ok a ρ' => exact fun b H' F' A' st wf en r pp => h b H' F' A' (s.trans st) wf en r (j pp)
  | exc x ρ' => exact fun cls dd H' F' A' st wf en r pp => h cls dd H' F' A' (s.trans st) wf en r (j pp)
  | bad => exact h
/-- one reading, then another one -/
theorem Tl.use {t : L2.St → Hp → (β → Hp → Prop) → Prop} {m : Mi α} {k : α → Mi γ} {Q : δ → Hp → Prop} {Q1 : β → Hp → Prop} (h1 : Tl X W p1 R G t m) (wf : Wf F H A) (en : EnvR X.K F H G σ ρ A)
    (h : Pg X W (p1 && p2) R2 G σ F H A ρ (bnd m k ρ) Q)
    (hk : ∀ a ρ1 b H1 F1 A1, Stp F H A F1 H1 A1 → Wf F1 H1 A1 → EnvR X.K F1 H1 G σ ρ1 A1 → R F1 H1 b a → (p1 = true → Pst F H F1 H1) → Pg X W p2 R2 G σ F1 H1 A1 ρ1 (k a ρ1) Q → Q1 b H1) : t σ H Q1 := by
  refine h1 F H A σ ρ Q1 wf en ?_
  unfold bnd at h
  cases e : m ρ with
  | ok a ρ' =>
    rw [e] at h
    exact fun b H' F' A' st wf' en' r pp => hk a ρ' b H' F' A' st wf' en' r (fun q => (pp q).1) (Pg.after st pp h)
  | exc x ρ' =>
    rw [e] at h
    exact fun cls dd H' F' A' st wf' en' r pp => h cls dd H' F' A' st wf' en' r fun q => pp (Bool.and_eq_true_iff.mp q).1
  | bad => rw [e] at h; exact h
/-- an end that changes nothing but lays new things -/
theorem Pg.fin {d : α} {Q : β → Hp → Prop} {b : β} (wf : Wf F H A) (en : EnvR X.K F H G σ ρ A) (h : Pg X W p R G σ F H A ρ (.ok d ρ) Q) (s : Pst F H F1 H1) (r : R F1 H1 b d) : Q b H1 :=
  h b H1 F1 A s.stp (s.wf wf) (en.mono (s.stay wf.a)) r fun _ => ⟨s, rfl, rfl⟩
theorem Pg.fin0 {d : α} {Q : β → Hp → Prop} {b : β} (wf : Wf F H A) (en : EnvR X.K F H G σ ρ A) (h : Pg X W p R G σ F H A ρ (.ok d ρ) Q) (r : R F H b d) : Q b H := h.fin wf en Pst.refl r
theorem Tl.weak {t : L2.St → Hp → (β → Hp → Prop) → Prop} {m : Mi α} (h : Tl X W p R G t m) : Tl X W false R G t m := by
  intro F H A σ ρ Q wf en hp
  refine h F H A σ ρ Q wf en ?_
  cases e : m ρ with
  | ok a ρ' => rw [e] at hp; exact fun b H' F' A' st wf' en' r _ => hp b H' F' A' st wf' en' r fun z => nomatch z
  | exc x ρ' => rw [e] at hp; exact fun cls dd H' F' A' st wf' en' r _ => hp cls dd H' F' A' st wf' en' r fun z => nomatch z
  | bad => rw [e] at hp; exact hp
end

/-! ### the judgements of expressions -/
/-- an expression; its value stays -/
def DE (X : Cx) (W : WX) (p : Bool) (G : List Sh) (e : Expr) (m : Mi D) : Prop := ∃ t, PE X e t ∧ Tl X W p (Rp X.K) G t m
/-- an expression; its value is so now -/
def DC (X : Cx) (W : WX) (p : Bool) (G : List Sh) (e : Expr) (m : Mi D) : Prop := ∃ t, PE X e t ∧ Tl X W p (Rc X.K) G t m
/-- a test -/
def DT (X : Cx) (W : WX) (p : Bool) (G : List Sh) (e : Expr) (m : Mi Bool) : Prop := ∃ t, PT X e t ∧ Tl X W p RB G t m
def DW (X : Cx) (W : WX) (p : Bool) (G : List Sh) (e : Expr) (m : Mi Bool) : Prop := ∃ t, PW X e t ∧ Tl X W p RB G t m
/-- arguments -/
def DA (X : Cx) (W : WX) (p : Bool) (G : List Sh) (es : List Expr) (m : Mi (List D)) : Prop := ∃ t, PA X es t ∧ Tl X W p (fun F H vs ds => Rps X.K F H vs ds ∧ vs.length = es.length) G t m

theorem Rp.rc {K : PySem.W.Frag} {F : FS} {H : Hp} {v : V} {d : D} (h : Rp K F H v d) : Rp K (fun _ => True) H v d :=
  h.mono ⟨fun _ _ => trivial, fun _ _ _ h => h, fun _ _ _ h => h⟩

/-! ### names, constants -/
def eVar (i : Nat) : Mi D := fun ρ => match ρ[i]? with
  | some (some d) => .ok d ρ
  | _ => .bad
section
variable {X : Cx} {W : WX} {p p1 p2 p3 : Bool} {G : List Sh} {e a b c : Expr} {pos : Pos}
theorem DE.dc {m : Mi D} (h : DE X W p G e m) : DC X W p G e m := by
  obtain ⟨t, pe, tl⟩ := h
  refine ⟨t, pe, fun F H A σ ρ Q wf en hp => tl F H A σ ρ Q wf en ?_⟩
  cases e : m ρ with
  | ok a ρ' => rw [e] at hp; exact fun b H' F' A' st wf' en' r pp => hp b H' F' A' st wf' en' r.rc pp
  | exc x ρ' => rw [e] at hp; exact hp
  | bad => rw [e] at hp; exact hp
theorem DE.weak {m : Mi D} (h : DE X W p G e m) : DE X W false G e m := by
  obtain ⟨t, pe, tl⟩ := h
  exact ⟨t, pe, tl.weak⟩
theorem de_var (i : Nat) {x : Str} (hG : G[i]? = some .fz) (hN : X.N[i]? = some x) (hv : Vis X.env.scope x) (hd : (x == ("__debug__" : Str)) = false := by decide) (hcd : (x == ("__classdict__" : Str)) = false := by decide) : DE X W true G (.Name x pos) (eVar i) := by
  refine ⟨_, pe_var hN hv hd hcd, fun F H A σ ρ Q wf en hp => ?_⟩
  unfold eVar at hp
  split at hp
  · rename_i d e
    obtain ⟨v, B, e1, o, _⟩ := en.get hG e
    exact ⟨v, e1, hp.fin0 wf en o.1⟩
  · exact hp.elim
/-- a constant -/
def eK (d : D) : Mi D := ret d
theorem de_int {i j} : DE X W true G (.Constant (.int i) j pos) (eK (.int i)) := ⟨_, pe_int, fun F H A σ ρ Q wf en hp => hp.fin0 wf en (.v _)⟩
theorem de_bl {b j} : DE X W true G (.Constant (.bool b) j pos) (eK (.bl b)) := ⟨_, pe_bl, fun F H A σ ρ Q wf en hp => hp.fin0 wf en (.v _)⟩
theorem de_non {j} : DE X W true G (.Constant .none j pos) (eK .non) := ⟨_, pe_non, fun F H A σ ρ Q wf en hp => hp.fin0 wf en (.v _)⟩
theorem de_str {x j} : DE X W true G (.Constant (.str x) j pos) (eK (.str x)) := ⟨_, pe_str, fun F H A σ ρ Q wf en hp => hp.fin0 wf en (.v _)⟩
/-- what a name of the module has -/
def GV (K : PySem.W.Frag) (v : V) (d : D) : Prop := ∀ F H, Rp K F H v d
theorem de_glob {x : Str} {v : V} {u : Value} {d : D} (hg : Gl X x) (hm : X.mg x = some u) (r : RelV v u) (hd : GV X.K v d) (hdb : (x == ("__debug__" : Str)) = false := by decide) : DE X W true G (.Name x pos) (eK d) :=
  ⟨_, pe_glob hg hm r hdb, fun F H A σ ρ Q wf en hp => hp.fin0 wf en (hd F H)⟩

/-! ### operators on values -/
/-- an operation on two things that stand now (f), the new one stays -/
def VOp (K : PySem.W.Frag) (r : R2) (f : D → D → Option D) : Prop :=
  ∀ F H x y d1 d2 d (Q : VK), (∀ a, F a → H a ≠ none) → Rp K F H x d1 → Rp K F H y d2 → f d1 d2 = some d → (∀ w H' F', Pst F H F' H' → Rp K F' H' w d → Q w H') → r x y H Q
def eOp (f : D → D → Option D) (ma mb : Mi D) : Mi D := bnd ma fun x => bnd mb fun y => lift (f x y)
theorem Pg.lift {α β : Type} {R : Rel β α} {σ : L2.St} {F : FS} {H : Hp} {A : List Addr} {ρ : Env} {o : Option α} {Q : β → Hp → Prop} (h : Pg X W p R G σ F H A ρ (DM.lift o ρ) Q) : ∃ d, o = some d ∧ Pg X W p R G σ F H A ρ (.ok d ρ) Q := by
  cases o with
  | none => exact (show False from h).elim
  | some d => exact ⟨d, rfl, h⟩
theorem de_op {op : Operator} {r : R2} {f : D → D → Option D} {ma mb : Mi D} (ho : OpR X (binaryOp op) r) (hf : VOp X.K r f) (ha : DE X W p1 G a ma) (hb : DE X W p2 G b mb) : DE X W (p1 && (p2 && true)) G (.BinOp a op b pos) (eOp f ma mb) := by
  obtain ⟨ta, pa, la⟩ := ha
  obtain ⟨tb, pb, lb⟩ := hb
  refine ⟨_, pe_op ho pa pb, fun F H A σ ρ Q wf en hp => ?_⟩
  refine la.use wf en hp fun d1 ρ1 x H1 F1 A1 s1 wf1 en1 r1 _ hp => ?_
  refine lb.use wf1 en1 hp fun d2 ρ2 y H2 F2 A2 s2 wf2 en2 r2 _ hp => ?_
  obtain ⟨d, e, hp⟩ := hp.lift
  exact hf F2 H2 x y d1 d2 d Q wf2.f (r1.mono (s2.fut wf1)) r2 e fun w H' F' s r => hp.fin wf2 en2 s r
/-- a comparison, its operands as they stand -/
def VCmp (K : PySem.W.Frag) (r : R2) (f : D → D → Option Bool) : Prop :=
  ∀ H x y d1 d2 k (Q : VK), Rp K (fun _ => True) H x d1 → Rp K (fun _ => True) H y d2 → f d1 d2 = some k → Q (.bl k) H → r x y H Q
def eCmp (f : D → D → Option Bool) (ma mb : Mi D) : Mi D := bnd ma fun x => bnd mb fun y => lift ((f x y).map D.bl)
def tCp (f : D → D → Option Bool) (ma mb : Mi D) : Mi Bool := bnd ma fun x => bnd mb fun y => lift (f x y)
theorem Rc.later {K : PySem.W.Frag} {F F1 : FS} {H H1 : Hp} {v : V} {d : D} (s : Pst F H F1 H1) (r : Rp K (fun _ => True) H v d) : Rp K (fun _ => True) H1 v d :=
  r.mono ⟨fun _ h => h, fun a xs _ h => s.keep a _ h, fun a u _ h => Rd.mono_of (fun o e => s.keep a o e) h⟩
/-- the left one stays, the right one as it stands; or the right one changes nothing -/
theorem de_cmp {op : CmpOp} {r : R2} {f : D → D → Option Bool} {ma mb : Mi D} (ho : OpR X (compareOp op) r) (hf : VCmp X.K r f) (ha : DE X W p1 G a ma) (hb : DC X W p2 G b mb) (hm : behindInMarks op b = false) : DE X W (p1 && (p2 && true)) G (.Compare a [op] [b] pos) (eCmp f ma mb) := by
  obtain ⟨ta, pa, la⟩ := ha
  obtain ⟨tb, pb, lb⟩ := hb
  refine ⟨_, pe_cmpR ho pa pb hm, fun F H A σ ρ Q wf en hp => ?_⟩
  refine la.use wf en hp fun d1 ρ1 x H1 F1 A1 s1 wf1 en1 r1 _ hp => ?_
  refine lb.use wf1 en1 hp fun d2 ρ2 y H2 F2 A2 s2 wf2 en2 r2 _ hp => ?_
  obtain ⟨d, e, hp⟩ := hp.lift
  cases q : f d1 d2 with
  | none => rw [q] at e; cases e
  | some k =>
    rw [q] at e; cases e
    exact hf H2 x y d1 d2 k Q (r1.mono (s2.fut wf1)).rc r2 q (hp.fin0 wf2 en2 (.v _))
theorem dt_cmp {op : CmpOp} {r : R2} {f : D → D → Option Bool} {ma mb : Mi D} (ho : OpR X (compareOp op) r) (hf : VCmp X.K r f) (ha : DE X W p1 G a ma) (hb : DC X W p2 G b mb) (hm : behindInMarks op b = false) : DT X W (p1 && (p2 && true)) G (.Compare a [op] [b] pos) (tCp f ma mb) := by
  obtain ⟨ta, pa, la⟩ := ha
  obtain ⟨tb, pb, lb⟩ := hb
  refine ⟨_, pt_cmpR ho pa pb hm, fun F H A σ ρ Q wf en hp => ?_⟩
  refine la.use wf en hp fun d1 ρ1 x H1 F1 A1 s1 wf1 en1 r1 _ hp => ?_
  refine lb.use wf1 en1 hp fun d2 ρ2 y H2 F2 A2 s2 wf2 en2 r2 _ hp => ?_
  obtain ⟨k, q, hp⟩ := hp.lift
  exact hf H2 x y d1 d2 k _ (r1.mono (s2.fut wf1)).rc r2 q ⟨_, rfl, hp.fin0 wf2 en2 rfl⟩
/-- both as they stand, where the right one changes nothing -/
theorem de_cmpC {op : CmpOp} {r : R2} {f : D → D → Option Bool} {ma mb : Mi D} (ho : OpR X (compareOp op) r) (hf : VCmp X.K r f) (ha : DC X W p1 G a ma) (hb : DC X W true G b mb) (hm : behindInMarks op b = false) : DE X W (p1 && (true && true)) G (.Compare a [op] [b] pos) (eCmp f ma mb) := by
  obtain ⟨ta, pa, la⟩ := ha
  obtain ⟨tb, pb, lb⟩ := hb
  refine ⟨_, pe_cmpR ho pa pb hm, fun F H A σ ρ Q wf en hp => ?_⟩
  refine la.use wf en hp fun d1 ρ1 x H1 F1 A1 s1 wf1 en1 r1 _ hp => ?_
  refine lb.use wf1 en1 hp fun d2 ρ2 y H2 F2 A2 s2 wf2 en2 r2 ps hp => ?_
  obtain ⟨d, e, hp⟩ := hp.lift
  cases q : f d1 d2 with
  | none => rw [q] at e; cases e
  | some k =>
    rw [q] at e; cases e
    exact hf H2 x y d1 d2 k Q (Rc.later (ps rfl) r1) r2 q (hp.fin0 wf2 en2 (.v _))
theorem dt_cmpC {op : CmpOp} {r : R2} {f : D → D → Option Bool} {ma mb : Mi D} (ho : OpR X (compareOp op) r) (hf : VCmp X.K r f) (ha : DC X W p1 G a ma) (hb : DC X W true G b mb) (hm : behindInMarks op b = false) : DT X W (p1 && (true && true)) G (.Compare a [op] [b] pos) (tCp f ma mb) := by
  obtain ⟨ta, pa, la⟩ := ha
  obtain ⟨tb, pb, lb⟩ := hb
  refine ⟨_, pt_cmpR ho pa pb hm, fun F H A σ ρ Q wf en hp => ?_⟩
  refine la.use wf en hp fun d1 ρ1 x H1 F1 A1 s1 wf1 en1 r1 _ hp => ?_
  refine lb.use wf1 en1 hp fun d2 ρ2 y H2 F2 A2 s2 wf2 en2 r2 ps hp => ?_
  obtain ⟨k, q, hp⟩ := hp.lift
  exact hf H2 x y d1 d2 k _ (Rc.later (ps rfl) r1) r2 q ⟨_, rfl, hp.fin0 wf2 en2 rfl⟩
/-- a op b op' c, all of them values that stay -/
def eChain (f g : D → D → Option Bool) (ma mb mc : Mi D) : Mi D := bnd ma fun x => bnd mb fun y => bnd (lift (f x y)) fun k => if k = true then bnd mc fun z => lift ((g y z).map D.bl) else ret (D.bl false)
def tChn (f g : D → D → Option Bool) (ma mb mc : Mi D) : Mi Bool := bnd ma fun x => bnd mb fun y => bnd (lift (f x y)) fun k => if k = true then bnd mc fun z => lift (g y z) else ret false
theorem bnd_lift {α β : Type} {o : Option α} {k : α → Mi β} {ρ : Env} : bnd (DM.lift o) k ρ = match o with | some a => k a ρ | none => .bad := by
  cases o <;> rfl
end
end DM
/-! DmC: data as the library's data; operations on values. -/
namespace DM
open PySem PySem.Spec PyProof.Rows L2

mutual
def D.py : D → PyData
  | .v x => match x with
    | .non => .none
    | .bl b => .bool b
    | .int i => .int i
    | .str s => .str s
    | _ => .dict []
  | .lst xs => .list (pyAll xs)
  | .tup xs => .tuple (pyAll xs)
  | .dct kvs => .dict (pyKv kvs)
  | .scr ns => .list (ns.map .int)
def pyAll : List D → List PyData
  | [] => []
  | x :: xs => x.py :: pyAll xs
def pyKv : List (D × D) → List (PyData × PyData)
  | [] => []
  | p :: r => (p.1.py, p.2.py) :: pyKv r
end
mutual
/-- no thing of another kind in it -/
def D.plain : D → Bool
  | .v x => match x with
    | .non | .bl _ | .int _ | .str _ => true
    | _ => false
  | .lst xs => plainAll xs
  | .tup xs => plainAll xs
  | .dct kvs => plainKv kvs
  | .scr _ => true
def plainAll : List D → Bool
  | [] => true
  | x :: xs => x.plain && plainAll xs
def plainKv : List (D × D) → Bool
  | [] => true
  | p :: r => p.1.plain && p.2.plain && plainKv r
end

section
variable {X : Cx} {pins : List (Addr × Obj)} {σ : L2.St} {H : Hp} {F : FS} {s : Shared}
theorem modT_tuple {a xs} (I : Inv X pins σ H s) (h : TupF X.K F H a xs) : ∃ its : List Value, Vals xs its ∧ IsTup s.heap a its.toArray ∧ xs.length ≤ sizeLine := I.tuple h.sq
theorem read_ints : ∀ (ns : List Int) (us : List Value), Vals (ns.map V.int) us → ∃ as, ReadsAll s.heap us (ns.map PyData.int) as
  | [], _, .nil => ⟨_, .nil⟩
  | n :: ns, _, .cons ⟨t, e⟩ r => by
    subst e
    obtain ⟨as, q⟩ := read_ints ns _ r
    exact ⟨_, .cons (.int n t) q⟩
theorem key_is {k : Key} {u : Value} (h : keyIs k u = true) : (∃ i t, k = .inl i ∧ u = .int i t) ∨ ∃ x t, k = .inr x ∧ u = .str x t := keyIs_shape h
end

/-! ### equality -/
/-- the depth and the signs of things that == looks at -/
def shp (d : D) : Bool := d.plain && SeqAt.shaped d.py
def opEq : D → D → Option Bool
  | .v (.int i), .v (.int j) => some (decide (i = j))
  | .v (.str x), .v (.str y) => some (decide (x = y))
  | .v (.bl a), .v (.bl b) => some (decide (a = b))
  | .v .non, .v .non => some true
  | .v .non, .v (.int _) => some false
  | .v .non, .v (.str _) => some false
  | .v (.int _), .v .non => some false
  | .v (.str _), .v .non => some false
  | .v (.str _), .v (.int _) => some false
  | .v (.int _), .v (.str _) => some false
  | a, b => if shp a = true ∧ shp b = true then some (PyData.eqv a.py b.py) else none
def opNe (a b : D) : Option Bool := (opEq a b).map (!·)

section
variable {K : PySem.W.Frag} {H : Hp} {F : FS}
mutual
theorem Rp.dp : ∀ {v d}, Rp K F H v d → d.plain = true → d.py.canLay0 = true → Dp K H v d.py
  | _, _, .v x, p, c => by
    cases x with
    | non => exact .non
    | bl b => exact .bl b
    | int i => exact .int i
    | str z => exact .str z
    | byt b => cases p
    | flt b => cases p
    | ref b => cases p
    | ty b => cases p
  | _, _, .lst f h r, p, c => .lst (SqL.of h) (Rps.dp r p (by simpa [D.py, PyData.canLay0] using c))
  | _, _, .tup h r, p, c => .tup h.sq (Rps.dp r p (by simpa [D.py, PyData.canLay0] using c))
  | _, _, .dK f h r, p, c => by simp [D.py, PyData.canLay0] at c
  | _, _, .dT f h r, p, c => by simp [D.py, PyData.canLay0] at c
  | _, _, .scr (ns := ns) h, p, c => .lst h.sq (dp_ints ns)
theorem Rps.dp : ∀ {vs ds}, Rps K F H vs ds → plainAll ds = true → PyData.canLayAll0 (pyAll ds) = true → DpAll K H vs (pyAll ds)
  | _, _, .nil, _, _ => .nil
  | _, _, .cons h r, p, c => by
    obtain ⟨p1, p2⟩ := Bool.and_eq_true_iff.mp (show (_ && _) = true from p)
    obtain ⟨c1, c2⟩ := Bool.and_eq_true_iff.mp (show (_ && _) = true from c)
    exact .cons (Rp.dp h p1 c1) (Rps.dp r p2 c2)
theorem dp_ints : ∀ ns : List Int, DpAll K H (ns.map V.int) (ns.map PyData.int)
  | [] => .nil
  | n :: ns => .cons (.int n) (dp_ints ns)
end
end
theorem shp_lay {d : D} (h : shp d = true) : d.plain = true ∧ d.py.canLay0 = true ∧ SeqAt.shaped d.py = true := by
  obtain ⟨a, b⟩ := Bool.and_eq_true_iff.mp h
  exact ⟨a, SeqAt.canLay_of_shaped b, b⟩
/-- either HandS's rule for plain values, or that for data -/
def rEqX (K : PySem.W.Frag) : R2 := fun x y H Q => rEq x y H Q ∨ rEqD K x y H Q
def rNeX (K : PySem.W.Frag) : R2 := fun x y H Q => rNe x y H Q ∨ rNeD K x y H Q
section
variable {X : Cx}
theorem op_eqX (hu : X.A.units + 64 < cLine) : OpR X (compareOp .Eq) (rEqX X.K) := op_eq.or (op_eqD hu)
theorem op_neX (hu : X.A.units + 64 < cLine) : OpR X (compareOp .NotEq) (rNeX X.K) := op_ne.or (op_neD hu)
theorem eq_cases {x y : D} {k : Bool} {F : FS} {H : Hp} {u v : V} {K : PySem.W.Frag} (ru : Rp K F H u x) (rv : Rp K F H v y) (e : opEq x y = some k) :
    (scal u v = true ∧ k = decide (u = v)) ∨ (∃ d e, Dp K H u d ∧ Dp K H v e ∧ SeqAt.shaped d = true ∧ SeqAt.shaped e = true ∧ k = PyData.eqv d e) := by
  unfold opEq at e
  split at e
  all_goals first
    | (cases ru; cases rv; cases e; exact .inl ⟨rfl, by simp⟩)
    | (split at e
       · rename_i hs
         cases e
         obtain ⟨p1, c1, s1⟩ := shp_lay hs.1
         obtain ⟨p2, c2, s2⟩ := shp_lay hs.2
         exact .inr ⟨_, _, ru.dp p1 c1, rv.dp p2 c2, s1, s2, rfl⟩
       · cases e)
theorem vc_eq : VCmp X.K (rEqX X.K) opEq := by
  intro H x y d1 d2 k Q rx ry e q
  rcases eq_cases rx ry e with ⟨a, b⟩ | ⟨d, e', h1, h2, h3, h4, h5⟩
  · exact .inl ⟨a, by rw [← b]; exact q⟩
  · exact .inr ⟨d, e', h1, h2, h3, h4, by rw [← h5]; exact q⟩
theorem vc_ne : VCmp X.K (rNeX X.K) opNe := by
  intro H x y d1 d2 k Q rx ry e q
  unfold opNe at e
  cases e0 : opEq d1 d2 with
  | none => rw [e0] at e; cases e
  | some k0 =>
    rw [e0] at e
    cases e
    rcases eq_cases rx ry e0 with ⟨a, b⟩ | ⟨d, e', h1, h2, h3, h4, h5⟩
    · exact .inl ⟨a, by rw [← b]; exact q⟩
    · exact .inr ⟨d, e', h1, h2, h3, h4, by rw [← h5]; exact q⟩
end

/-! ### order of whole numbers -/
def opI2 (f : Int → Int → Bool) : D → D → Option Bool
  | .v (.int i), .v (.int j) => some (f i j)
  | _, _ => none
abbrev opLt := opI2 fun i j => decide (i < j)
abbrev opLe := opI2 fun i j => decide (i ≤ j)
abbrev opGt := opI2 fun i j => decide (j < i)
abbrev opGe := opI2 fun i j => decide (j ≤ i)
theorem vc_i2 {K : PySem.W.Frag} {f : Int → Int → Bool} : VCmp K (rI0 fun i j => .bl (f i j)) (opI2 f) := by
  intro H x y d1 d2 k Q rx ry e q
  unfold opI2 at e
  split at e
  · cases rx; cases ry; cases e; exact ⟨_, _, rfl, rfl, q⟩
  · cases e

/-! ### is -/
def opIs : D → D → Option Bool
  | .v x, .v .non => some (decide (x = .non))
  | .v (.bl a), .v (.bl b) => some (decide (a = b))
  | .v .non, .v (.bl _) => some false
  | .v (.int _), .v (.bl _) => some false
  | .v (.str _), .v (.bl _) => some false
  | .lst _, .v .non => some false
  | .tup _, .v .non => some false
  | .dct _, .v .non => some false
  | .lst _, .v (.bl _) => some false
  | .tup _, .v (.bl _) => some false
  | .dct _, .v (.bl _) => some false
  | _, _ => none
def opIsNot (a b : D) : Option Bool := (opIs a b).map (!·)
/-- is, of None and truth values -/
def isV : V → V → Option Bool
  | x, .non => some (decide (x = .non))
  | .bl a, .bl b => some (decide (a = b))
  | .non, .bl _ => some false
  | .int _, .bl _ => some false
  | .str _, .bl _ => some false
  | .ref _, .bl _ => some false
  | _, _ => none
def rIs : R2 := fun x y H Q => ∃ k, isV x y = some k ∧ Q (.bl k) H
def rIsNot : R2 := fun x y H Q => ∃ k, isV x y = some k ∧ Q (.bl (!k)) H
section
variable {X : Cx}
theorem is_run {x y : V} {v u : Value} {k : Bool} (rx : RelV x v) (ry : RelV y u) (e : isV x y = some k) : plainIs v u = true ∧ (v == u) = k := by
  unfold isV at e
  split at e
  all_goals first
    | (cases e; cases ry; refine ⟨?_, rx.none_iff⟩; cases x <;> first | (cases rx; rfl) | (obtain ⟨t, rfl⟩ := rx; rfl))
    | (cases e; cases rx; cases ry; refine ⟨rfl, ?_⟩; rename_i a b; revert a b; decide)
    | (cases e; cases ry; first | (cases rx; exact ⟨rfl, rfl⟩) | (obtain ⟨t, rfl⟩ := rx; exact ⟨rfl, rfl⟩))
    | cases e
theorem op_is : OpR X (compareOp .Is) rIs := by
  intro pins s σ H x y v u Q I rx ry h
  obtain ⟨k, e, q⟩ := h
  obtain ⟨p, z⟩ := is_run rx ry e
  exact wpAny_is_plain p ⟨.bl k, H, I, by rw [z]; rfl, q⟩
theorem op_isNot : OpR X (compareOp .IsNot) rIsNot := by
  intro pins s σ H x y v u Q I rx ry h
  obtain ⟨k, e, q⟩ := h
  obtain ⟨p, z⟩ := is_run rx ry e
  exact wpAny_isNot_plain p ⟨.bl (!k), H, I, by rw [z]; rfl, q⟩
theorem isV_of {F : FS} {H : Hp} {x y : V} {d1 d2 : D} {k : Bool} (rx : Rp X.K F H x d1) (ry : Rp X.K F H y d2) (e : opIs d1 d2 = some k) : isV x y = some k := by
  unfold opIs at e
  split at e
  all_goals first
    | (cases rx <;> cases ry <;> cases e <;> rfl)
    | cases e
theorem vc_is : VCmp X.K rIs opIs := fun H x y d1 d2 k Q rx ry e q => ⟨k, isV_of rx ry e, q⟩
theorem vc_isNot : VCmp X.K rIsNot opIsNot := by
  intro H x y d1 d2 k Q rx ry e q
  unfold opIsNot at e
  cases e0 : opIs d1 d2 with
  | none => rw [e0] at e; cases e
  | some k0 => rw [e0] at e; cases e; exact ⟨k0, isV_of rx ry e0, q⟩
end

/-! ### in -/
def subStr (i j : Str) : Bool := !(Builtin.Str.occurrences j i 0 j.length 1).isEmpty
def inAll (d : D) : List D → Bool
  | [] => false
  | x :: xs => PyData.eqv x.py d.py || inAll d xs
def opIn : D → D → Option Bool
  | .v (.str i), .v (.str j) => some (subStr i j)
  | d, .lst xs => if shp d = true ∧ shp (.lst xs) = true then some (inAll d xs) else none
  | d, .tup xs => if shp d = true ∧ shp (.tup xs) = true then some (inAll d xs) else none
  | _, _ => none
def opNotIn (a b : D) : Option Bool := (opIn a b).map (!·)
theorem inAll_any (d : D) : ∀ xs : List D, inAll d xs = (pyAll xs).any fun y => PyData.eqv y d.py
  | [] => rfl
  | x :: xs => by simp only [inAll, pyAll, List.any_cons, inAll_any d xs]
def rInX (K : PySem.W.Frag) (neg : Bool) : R2 := fun x y H Q =>
  (∃ i j, x = .str i ∧ y = .str j ∧ Q (.bl (if neg then !subStr i j else subStr i j)) H) ∨
  (∃ d ds, Dp K H x d ∧ (Dp K H y (.list ds) ∨ Dp K H y (.tuple ds)) ∧ SeqAt.shaped d = true ∧ PyData.canLayAll0 ds = true ∧ Q (.bl (if neg then !(ds.any fun y => PyData.eqv y d) else ds.any fun y => PyData.eqv y d)) H)
section
variable {X : Cx}
theorem op_inX (hu : X.A.units + 65 < cLine) : OpR X (compareOp .In) (rInX X.K false) := by
  intro pins s σ H x y v u Q I rx ry h
  rcases h with ⟨i, j, rfl, rfl, q⟩ | ⟨d, ds, hd, he, sd, se, q⟩
  · exact op_in_str pins s σ H _ _ v u Q I rx ry ⟨i, j, rfl, rfl, q⟩
  · obtain ⟨bs, r2⟩ := Dp.reads I d x v hd rx
    have hroom : X.A.units + 1 + min (PyData.depthAll ds) d.depth < cLine := by
      have h1 := SeqAt.depth_of_shaped sd
      have h2 := Nat.min_le_right (PyData.depthAll ds) d.depth
      omega
    rcases he with he | he
    · obtain ⟨as, r1⟩ := Dp.reads I (.list ds) y u he ry
      exact SeqAt.in_list_reads r1 r2 se (SeqAt.canLay_of_shaped sd) hroom ⟨.bl _, H, I, rfl, q⟩
    · obtain ⟨as, r1⟩ := Dp.reads I (.tuple ds) y u he ry
      exact SeqAt.in_tuple_reads r1 r2 se (SeqAt.canLay_of_shaped sd) hroom ⟨.bl _, H, I, rfl, q⟩
theorem op_notInX (hu : X.A.units + 65 < cLine) : OpR X (compareOp .NotIn) (rInX X.K true) := by
  intro pins s σ H x y v u Q I rx ry h
  rcases h with ⟨i, j, rfl, rfl, q⟩ | ⟨d, ds, hd, he, sd, se, q⟩
  · exact op_notIn_str pins s σ H _ _ v u Q I rx ry ⟨i, j, rfl, rfl, q⟩
  · obtain ⟨bs, r2⟩ := Dp.reads I d x v hd rx
    have hroom : X.A.units + 1 + min (PyData.depthAll ds) d.depth < cLine := by
      have h1 := SeqAt.depth_of_shaped sd
      have h2 := Nat.min_le_right (PyData.depthAll ds) d.depth
      omega
    rcases he with he | he
    · obtain ⟨as, r1⟩ := Dp.reads I (.list ds) y u he ry
      exact SeqAt.notIn_list_reads r1 r2 se (SeqAt.canLay_of_shaped sd) hroom ⟨.bl _, H, I, rfl, q⟩
    · obtain ⟨as, r1⟩ := Dp.reads I (.tuple ds) y u he ry
      exact SeqAt.notIn_tuple_reads r1 r2 se (SeqAt.canLay_of_shaped sd) hroom ⟨.bl _, H, I, rfl, q⟩
theorem in_cases {neg : Bool} {F : FS} {H : Hp} {x y : V} {d1 d2 : D} {k : Bool} {Q : VK} (rx : Rp X.K F H x d1) (ry : Rp X.K F H y d2) (e : opIn d1 d2 = some k) (q : Q (.bl (if neg then !k else k)) H) : rInX X.K neg x y H Q := by
  unfold opIn at e
  split at e
  · cases rx; cases ry; cases e; exact .inl ⟨_, _, rfl, rfl, q⟩
  · split at e
    · rename_i hs
      cases e
      obtain ⟨p1, c1, s1⟩ := shp_lay hs.1
      obtain ⟨p2, c2, s2⟩ := shp_lay hs.2
      exact .inr ⟨_, _, rx.dp p1 c1, .inl (ry.dp p2 c2), s1, by simpa [D.py, PyData.canLay0] using c2, by rw [← inAll_any]; exact q⟩
    · cases e
  · split at e
    · rename_i hs
      cases e
      obtain ⟨p1, c1, s1⟩ := shp_lay hs.1
      obtain ⟨p2, c2, s2⟩ := shp_lay hs.2
      exact .inr ⟨_, _, rx.dp p1 c1, .inr (ry.dp p2 c2), s1, by simpa [D.py, PyData.canLay0] using c2, by rw [← inAll_any]; exact q⟩
    · cases e
  · cases e
theorem vc_in : VCmp X.K (rInX X.K false) opIn := fun H x y d1 d2 k Q rx ry e q => in_cases (neg := false) rx ry e q
theorem vc_notIn : VCmp X.K (rInX X.K true) opNotIn := by
  intro H x y d1 d2 k Q rx ry e q
  unfold opNotIn at e
  cases e0 : opIn d1 d2 with
  | none => rw [e0] at e; cases e
  | some k0 => rw [e0] at e; cases e; exact in_cases (neg := true) rx ry e0 q
end

/-! ### new objects -/
section
variable {K : PySem.W.Frag} {F : FS} {H : Hp} {A : List Addr} {p : Addr} {o : HO}
theorem Pst.lay (hp : H p = none) : Pst F H (fun b => F b ∨ b = p) (upd H p o) := by
  refine ⟨fun a h => .inl h, fun b u e => by rw [upd_ne (ne_of_none e hp)]; exact e, fun a h => ?_⟩
  rcases h with h | h
  · exact .inl h
  · subst h
    exact .inr ⟨hp, by rw [upd_same]; exact fun z => nomatch z⟩
theorem Pst.lay0 (hp : H p = none) (hF : ∀ a, F a → H a ≠ none) : Pst F H F (upd H p o) :=
  ⟨fun a h => h, fun b u e => by rw [upd_ne (ne_of_none e hp)]; exact e, fun a h => .inl h⟩
theorem rp_new_tup {vs ds} (hp : H p = none) (r : Rps K F H vs ds) : Rp K (fun b => F b ∨ b = p) (upd H p (.tup vs)) (.ref p) (.tup ds) :=
  .tup (.inl ⟨.inr rfl, .inl upd_same⟩) (r.mono (Pst.lay hp).fut)
theorem rp_new_lst {vs ds} (hp : H p = none) (r : Rps K F H vs ds) : Rp K (fun b => F b ∨ b = p) (upd H p (.lst vs)) (.ref p) (.lst ds) :=
  .lst (.inr rfl) upd_same (r.mono (Pst.lay hp).fut)
end

/-! ### + - * // % ** -/
def opAdd : D → D → Option D
  | .v (.int i), .v (.int j) => some (.int (i + j))
  | .v (.str x), .v (.str y) => if x.length + y.length ≤ sizeLine then some (.str (x ++ y)) else none
  | .tup xs, .tup ys => if xs.length + ys.length ≤ sizeLine then some (.tup (xs ++ ys)) else none
  | .lst xs, .lst ys => if xs.length + ys.length ≤ sizeLine then some (.lst (xs ++ ys)) else none
  | .v (.int i), .v (.bl b) => some (.int (i + b2i b))
  | _, _ => none
def opSub : D → D → Option D
  | .v (.int i), .v (.int j) => some (.int (i - j))
  | _, _ => none
/-- numbers of less than 2 ^ 30,000 -/
def small (i : Int) : Bool := decide (i.natAbs.log2 < 30000)
def opMul : D → D → Option D
  | .v (.int i), .v (.int j) => if small i && small j then some (.int (i * j)) else none
  | .tup xs, .v (.int k) => if xs ≠ [] ∧ 2 ≤ k ∧ k ≤ 1000 ∧ xs.length ≤ 1000 then some (.tup (List.replicate k.toNat xs).flatten) else none
  | .lst xs, .v (.int k) => if 0 ≤ k ∧ k ≤ 10000 ∧ xs.length ≤ 1000 then some (.lst (List.replicate k.toNat xs).flatten) else none
  | _, _ => none
def opFdiv : D → D → Option D
  | .v (.int i), .v (.int j) => if 0 < j ∧ j.natAbs.log2 < 9000 then some (.int (i / j)) else none
  | _, _ => none
def opMod : D → D → Option D
  | .v (.int i), .v (.int j) => if 0 < j then some (.int (i % j)) else none
  | _, _ => none
def opPow : D → D → Option D
  | .v (.int i), .v (.int j) => if 0 ≤ j ∧ j ≤ 1000 ∧ i.natAbs < 2 ^ 64 then some (.int (i ^ j.toNat)) else none
  | _, _ => none
def rAddX (K : PySem.W.Frag) : R2 := fun x y H Q => rI0 (fun i j => .int (i + j)) x y H Q ∨ ((∃ i j, x = .str i ∧ y = .str j ∧ i.length + j.length ≤ sizeLine ∧ Q (.str (i ++ j)) H) ∨ (rCatA K x y H Q ∨ (rCat x y H Q ∨ ∃ i k, x = .int i ∧ y = .bl k ∧ Q (.int (i + b2i k)) H)))
def rMulX (K : PySem.W.Frag) : R2 := fun x y H Q => rI CMulW (fun i j => .int (i * j)) x y H Q ∨ (rRepT K x y H Q ∨ rRep x y H Q)
section
variable {X : Cx}
theorem op_addX : OpR X (binaryOp .Add) (rAddX X.K) := op_add.or (op_add_str.or (op_catA.or (op_cat.or op_add_ib)))
theorem op_mulX : OpR X (binaryOp .Mult) (rMulX X.K) := op_mulW.or (op_repT.or op_rep)
theorem vop_add : VOp X.K (rAddX X.K) opAdd := by
  intro F H x y d1 d2 d Q w rx ry e k
  unfold opAdd at e
  split at e
  · cases rx; cases ry; cases e; exact .inl ⟨_, _, rfl, rfl, k _ H F Pst.refl (.v _)⟩
  · cases rx; cases ry
    split at e
    · cases e; exact .inr (.inl ⟨_, _, rfl, rfl, by assumption, k _ H F Pst.refl (.v _)⟩)
    · cases e
  · split at e
    · rename_i xs ys hz
      cases e
      cases rx with
      | tup h1 r1 =>
        cases ry with
        | tup h2 r2 =>
          refine .inr (.inr (.inl ⟨_, _, _, _, rfl, rfl, h1.sq, h2.sq, by rw [r1.length, r2.length]; exact hz, fun e0 => ?_, fun n0 e0 => ?_, fun n0 n1 p hp => ?_⟩))
          · subst e0; cases r1; exact k _ H F Pst.refl (.tup h2 r2)
          · subst e0; cases r2; rw [List.append_nil] at k; exact k _ H F Pst.refl (.tup h1 r1)
          · exact k _ _ _ (Pst.lay hp) (rp_new_tup hp (r1.app r2))
    · cases e
  · split at e
    · rename_i xs ys hz
      cases e
      cases rx with
      | lst f1 h1 r1 =>
        cases ry with
        | lst f2 h2 r2 =>
          exact .inr (.inr (.inr (.inl ⟨_, _, _, _, rfl, rfl, h1, h2, by rw [r1.length, r2.length]; exact hz, fun p hp => k _ _ _ (Pst.lay hp) (rp_new_lst hp (r1.app r2))⟩)))
    · cases e
  · cases rx; cases ry; cases e; exact .inr (.inr (.inr (.inr ⟨_, _, rfl, rfl, k _ H F Pst.refl (.v _)⟩)))
  · cases e
theorem vop_sub : VOp X.K (rI0 fun i j => .int (i - j)) opSub := by
  intro F H x y d1 d2 d Q w rx ry e k
  unfold opSub at e
  split at e
  · cases rx; cases ry; cases e; exact ⟨_, _, rfl, rfl, k _ H F Pst.refl (.v _)⟩
  · cases e
theorem rps_rep {K : PySem.W.Frag} {F : FS} {H : Hp} {vs : List V} {ds : List D} (r : Rps K F H vs ds) : ∀ n : Nat, Rps K F H (List.replicate n vs).flatten (List.replicate n ds).flatten
  | 0 => .nil
  | n + 1 => by
    rw [List.replicate_succ, List.replicate_succ, List.flatten_cons, List.flatten_cons]
    exact r.app (rps_rep r n)
theorem vop_mul : VOp X.K (rMulX X.K) opMul := by
  intro F H x y d1 d2 d Q w rx ry e k
  unfold opMul at e
  split at e
  · cases rx; cases ry
    split at e
    · rename_i hs
      cases e
      obtain ⟨h1, h2⟩ := Bool.and_eq_true_iff.mp hs
      have h1 := of_decide_eq_true h1
      have h2 := of_decide_eq_true h2
      exact .inl ⟨_, _, rfl, rfl, by unfold CMulW; omega, k _ H F Pst.refl (.v _)⟩
    · cases e
  · split at e
    · rename_i xs kk hz
      cases e
      cases ry
      cases rx with
      | tup h1 r1 =>
        obtain ⟨n0, z1, z2, z3⟩ := hz
        have n1 : ∀ q : List V, q.length = xs.length → q ≠ [] := fun q e z => by subst z; exact n0 (List.eq_nil_of_length_eq_zero e.symm)
        exact .inr (.inl ⟨_, _, _, rfl, rfl, h1.sq, n1 _ r1.length, z1, z2, by rw [r1.length]; exact z3, fun p hp => k _ _ _ (Pst.lay hp) (rp_new_tup hp (rps_rep r1 _))⟩)
    · cases e
  · split at e
    · rename_i xs kk hz
      cases e
      cases ry
      cases rx with
      | lst f1 h1 r1 =>
        obtain ⟨z1, z2, z3⟩ := hz
        have hm : xs.length * kk.toNat ≤ 1000 * 10000 := Nat.mul_le_mul z3 (by omega)
        exact .inr (.inr ⟨_, _, _, rfl, rfl, h1, by omega, by omega, by rw [r1.length, sizeLine_eq]; omega, fun p hp => k _ _ _ (Pst.lay hp) (rp_new_lst hp (rps_rep r1 _))⟩)
    · cases e
  · cases e
theorem vop_fdiv : VOp X.K (rI CDivW fun i j => .int (i / j)) opFdiv := by
  intro F H x y d1 d2 d Q w rx ry e k
  unfold opFdiv at e
  split at e
  · cases rx; cases ry
    split at e
    · rename_i hs; cases e; exact ⟨_, _, rfl, rfl, hs, k _ H F Pst.refl (.v _)⟩
    · cases e
  · cases e
theorem vop_mod : VOp X.K (rI (fun _ j => 0 < j) fun i j => .int (i % j)) opMod := by
  intro F H x y d1 d2 d Q w rx ry e k
  unfold opMod at e
  split at e
  · cases rx; cases ry
    split at e
    · rename_i hs; cases e; exact ⟨_, _, rfl, rfl, hs, k _ H F Pst.refl (.v _)⟩
    · cases e
  · cases e
theorem vop_pow : VOp X.K (rI CPow fun i j => .int (i ^ j.toNat)) opPow := by
  intro F H x y d1 d2 d Q w rx ry e k
  unfold opPow at e
  split at e
  · cases rx; cases ry
    split at e
    · rename_i hs; cases e; exact ⟨_, _, rfl, rfl, ⟨hs.1, by omega, hs.2.2⟩, k _ H F Pst.refl (.v _)⟩
    · cases e
  · cases e
end
end DM
/-! DmD: things that are read (owned or not), new owned things, arguments, displays, subscripts, slices, and or not, if. -/
namespace DM
open PySem PySem.Spec PyProof.Rows L2

/-- a thing whose parts stay: one that stays, or an owned list, dict of things that stay -/
def Rr (K : PySem.W.Frag) : Rel V D := fun F H v d => Rp K F H v d ∨
  (∃ a vs ds, v = .ref a ∧ d = .lst ds ∧ H a = some (.lst vs) ∧ Rps K F H vs ds) ∨
  (∃ a kvs ds, v = .ref a ∧ d = .dct ds ∧ H a = some (.dK kvs) ∧ RpK K F H kvs ds) ∨
  (∃ a kvs ds, v = .ref a ∧ d = .dct ds ∧ H a = some (.dT kvs) ∧ RpT K F H kvs ds)
section
variable {K : PySem.W.Frag} {F F' : FS} {H H' : Hp}
theorem futT : Fut F H (fun _ => True) H := ⟨fun _ _ => trivial, fun _ _ _ h => h, fun _ _ _ h => h⟩
theorem Rr.rc {v d} (h : Rr K F H v d) : Rp K (fun _ => True) H v d := by
  rcases h with h | ⟨a, vs, ds, rfl, rfl, h, r⟩ | ⟨a, vs, ds, rfl, rfl, h, r⟩ | ⟨a, vs, ds, rfl, rfl, h, r⟩
  · exact h.rc
  · exact .lst trivial h (r.mono futT)
  · exact .dK trivial (.inl h) (r.mono futT)
  · exact .dT trivial (.inl h) (r.mono futT)
theorem Rr.later {v d} (s : Pst F H F' H') (h : Rr K F H v d) : Rr K F' H' v d := by
  rcases h with h | ⟨a, vs, ds, rfl, rfl, h, r⟩ | ⟨a, vs, ds, rfl, rfl, h, r⟩ | ⟨a, vs, ds, rfl, rfl, h, r⟩
  · exact .inl (h.mono s.fut)
  · exact .inr (.inl ⟨a, vs, ds, rfl, rfl, s.keep _ _ h, r.mono s.fut⟩)
  · exact .inr (.inr (.inl ⟨a, vs, ds, rfl, rfl, s.keep _ _ h, r.mono s.fut⟩))
  · exact .inr (.inr (.inr ⟨a, vs, ds, rfl, rfl, s.keep _ _ h, r.mono s.fut⟩))
theorem all3_fz : ∀ {vs ds A}, All3 (Ow K F H .fz) vs ds A → Rps K F H vs ds ∧ A = []
  | [], [], _, h => ⟨.nil, h⟩
  | _ :: _, _ :: _, _, ⟨A1, A2, ⟨h1, e1⟩, h2, e⟩ => by
    obtain ⟨r, e2⟩ := all3_fz h2
    exact ⟨.cons h1 r, by rw [e, e1, e2]; rfl⟩
  | [], _ :: _, _, h => h.elim
  | _ :: _, [], _, h => h.elim
theorem all3_of : ∀ {vs ds}, Rps K F H vs ds → All3 (Ow K F H .fz) vs ds []
  | _, _, .nil => rfl
  | _, _, .cons h r => ⟨[], [], ⟨h, rfl⟩, all3_of r, rfl⟩
theorem allK_fz : ∀ {vs ds A}, AllK (Ow K F H .fz) vs ds A → RpK K F H vs ds ∧ A = []
  | [], [], _, h => ⟨.nil, h⟩
  | (_, _) :: _, (_, _) :: _, _, ⟨A1, A2, k, ⟨h1, e1⟩, h2, e⟩ => by
    obtain ⟨r, e2⟩ := allK_fz h2
    exact ⟨.cons k h1 r, by rw [e, e1, e2]; rfl⟩
  | [], _ :: _, _, h => h.elim
  | _ :: _, [], _, h => h.elim
theorem allK_of : ∀ {vs ds}, RpK K F H vs ds → AllK (Ow K F H .fz) vs ds []
  | _, _, .nil => rfl
  | _, _, .cons k h r => ⟨[], [], k, ⟨h, rfl⟩, allK_of r, rfl⟩
theorem allT_fz : ∀ {vs ds A}, AllT (Ow K F H .fz) vs ds A → RpT K F H vs ds ∧ A = []
  | [], [], _, h => ⟨.nil, h⟩
  | (_, _) :: _, (_, _) :: _, _, ⟨A1, A2, dk, k, kd, ⟨h1, e1⟩, h2, e⟩ => by
    obtain ⟨r, e2⟩ := allT_fz h2
    have kd' : _ = D.tup dk := kd
    subst kd'
    exact ⟨.cons k h1 r, by rw [e, e1, e2]; rfl⟩
  | [], _ :: _, _, h => h.elim
  | _ :: _, [], _, h => h.elim
theorem allT_of : ∀ {vs ds}, RpT K F H vs ds → AllT (Ow K F H .fz) vs ds []
  | _, _, .nil => rfl
  | _, _, .cons k h r => ⟨[], [], _, k, rfl, ⟨h, rfl⟩, allT_of r, rfl⟩
/-- shapes that may be read -/
inductive Rdb : Sh → Prop
  | fz : Rdb .fz
  | lst : Rdb (.lst .fz)
  | dct : Rdb (.dct .fz)
  | at_ {v s} : Rdb s → Rdb (.at_ v s)
theorem Ow.rr {s v d B} (h : Ow K F H s v d B) (r : Rdb s) : Rr K F H v d := by
  induction r with
  | fz => exact .inl h.1
  | lst =>
    obtain ⟨a, vs, ds, B, rfl, rfl, h, q, _⟩ := h
    exact .inr (.inl ⟨a, vs, ds, rfl, rfl, h, (all3_fz q).1⟩)
  | dct =>
    obtain ⟨a, ds, B, rfl, rfl, _, h⟩ := h
    rcases h with ⟨kvs, h, q⟩ | ⟨kvs, h, q⟩
    · exact .inr (.inr (.inl ⟨a, kvs, ds, rfl, rfl, h, (allK_fz q).1⟩))
    · exact .inr (.inr (.inr ⟨a, kvs, ds, rfl, rfl, h, (allT_fz q).1⟩))
  | at_ r ih => exact ih h.2
/-- owned data stays from now on -/
def Sh.nf : Sh → Bool
  | .fz => true
  | .any => false
  | .lst s => s.nf
  | .dct s => s.nf
  | .at_ _ s => s.nf
theorem all3_rps {R : V → D → List Addr → Prop} {F2 : FS} : ∀ {vs ds A}, (∀ v d B, (∀ b ∈ B, b ∈ A) → R v d B → Rp K F2 H v d) → All3 R vs ds A → Rps K F2 H vs ds
  | [], [], _, _, _ => .nil
  | _ :: _, _ :: _, _, m, ⟨A1, A2, h1, h2, e⟩ => .cons (m _ _ _ (fun b hb => by rw [e]; exact List.mem_append_left _ hb) h1) (all3_rps (fun v d B hB => m v d B fun b hb => by rw [e]; exact List.mem_append_right _ (hB b hb)) h2)
  | [], _ :: _, _, _, h => h.elim
  | _ :: _, [], _, _, h => h.elim
theorem allK_rpk {R : V → D → List Addr → Prop} {F2 : FS} : ∀ {vs ds A}, (∀ v d B, (∀ b ∈ B, b ∈ A) → R v d B → Rp K F2 H v d) → AllK R vs ds A → RpK K F2 H vs ds
  | [], [], _, _, _ => .nil
  | (_, _) :: _, (_, _) :: _, _, m, ⟨A1, A2, k, h1, h2, e⟩ => .cons k (m _ _ _ (fun b hb => by rw [e]; exact List.mem_append_left _ hb) h1) (allK_rpk (fun v d B hB => m v d B fun b hb => by rw [e]; exact List.mem_append_right _ (hB b hb)) h2)
  | [], _ :: _, _, _, h => h.elim
  | _ :: _, [], _, _, h => h.elim
theorem allT_rpt {R : V → D → List Addr → Prop} {F2 : FS} : ∀ {vs ds A}, (∀ v d B, (∀ b ∈ B, b ∈ A) → R v d B → Rp K F2 H v d) → AllT R vs ds A → RpT K F2 H vs ds
  | [], [], _, _, _ => .nil
  | (_, _) :: _, (_, _) :: _, _, m, ⟨A1, A2, dk, k, kd, h1, h2, e⟩ => by
    have kd' : _ = D.tup dk := kd
    subst kd'
    exact .cons k (m _ _ _ (fun b hb => by rw [e]; exact List.mem_append_left _ hb) h1) (allT_rpt (fun v d B hB => m v d B fun b hb => by rw [e]; exact List.mem_append_right _ (hB b hb)) h2)
  | [], _ :: _, _, _, h => h.elim
  | _ :: _, [], _, _, h => h.elim
theorem Ow.freeze {F2 : FS} : ∀ {s v d B}, Ow K F H s v d B → s.nf = true → (∀ a, F a → F2 a) → (∀ b ∈ B, F2 b) → Rp K F2 H v d
  | .fz, _, _, _, h, _, f, _ => h.1.mono ⟨f, fun _ _ _ h => h, fun _ _ _ h => h⟩
  | .any, _, _, _, _, n, _, _ => nomatch n
  | .lst s, _, _, _, ⟨a, vs, ds, B, ev, ed, h, q, e⟩, n, f, g => by
    subst ev; subst ed
    exact .lst (g a (by rw [e]; exact List.mem_cons_self)) h (all3_rps (fun v d C hC r => Ow.freeze (s := s) r n f fun b hb => g b (by rw [e]; exact List.mem_cons_of_mem _ (hC b hb))) q)
  | .dct s, _, _, _, ⟨a, ds, B, ev, ed, e, h⟩, n, f, g => by
    subst ev; subst ed
    rcases h with ⟨kvs, h, q⟩ | ⟨kvs, h, q⟩
    · exact .dK (g a (by rw [e]; exact List.mem_cons_self)) (.inl h) (allK_rpk (fun v d C hC r => Ow.freeze (s := s) r n f fun b hb => g b (by rw [e]; exact List.mem_cons_of_mem _ (hC b hb))) q)
    · exact .dT (g a (by rw [e]; exact List.mem_cons_self)) (.inl h) (allT_rpt (fun v d C hC r => Ow.freeze (s := s) r n f fun b hb => g b (by rw [e]; exact List.mem_cons_of_mem _ (hC b hb))) q)
  | .at_ w s, _, _, _, h, n, f, g => Ow.freeze (s := s) h.2 n f g
end

/-- an expression whose value may be read now -/
def DR (X : Cx) (W : WX) (p : Bool) (G : List Sh) (e : Expr) (m : Mi D) : Prop := ∃ t, PE X e t ∧ Tl X W p (Rr X.K) G t m
/-- an expression that makes a thing of the shape s that nobody else has -/
def PgO (X : Cx) (W : WX) (p : Bool) (s : Sh) (G : List Sh) (σ : L2.St) (F : FS) (H : Hp) (A : List Addr) (ρ : Env) (o : Out D) (Q : VK) : Prop :=
  match o with
  | .ok d ρ' => ∀ v H' F' A' B, Stp F H A F' H' (B ++ A') → Wf F' H' (B ++ A') → EnvR X.K F' H' G σ ρ' A' → Ow X.K F' H' s v d B → (p = true → Pst F H F' H' ∧ A' = A ∧ ρ' = ρ ∧ ∀ b ∈ B, H b = none) → Q v H'
  | .exc x ρ' => ∀ cls dd H' F' A', Stp F H A F' H' A' → Wf F' H' A' → EnvR X.K F' H' G σ ρ' A' → XR X.K X.mg F' H' x cls dd → (p = true → Pst F H F' H' ∧ A' = A ∧ ρ' = ρ) → W cls dd σ H'
  | .bad => False
def TlO (X : Cx) (W : WX) (p : Bool) (s : Sh) (G : List Sh) (t : TE) (m : Mi D) : Prop :=
  ∀ F H A σ ρ Q, Wf F H A → EnvR X.K F H G σ ρ A → PgO X W p s G σ F H A ρ (m ρ) Q → t σ H Q
def DO (X : Cx) (W : WX) (p : Bool) (s : Sh) (G : List Sh) (e : Expr) (m : Mi D) : Prop := ∃ t, PE X e t ∧ TlO X W p s G t m

section
variable {X : Cx} {W : WX} {p p1 p2 p3 : Bool} {G : List Sh} {e a b c : Expr} {pos : Pos} {α β γ δ : Type} {R : Rel β α} {R2 : Rel δ γ} {F F1 : FS} {H H1 : Hp} {A A1 : List Addr} {σ : L2.St} {ρ ρ1 : Env} {s : Sh}
theorem DE.dr {m : Mi D} (h : DE X W p G e m) : DR X W p G e m := by
  obtain ⟨t, pe, tl⟩ := h
  refine ⟨t, pe, fun F H A σ ρ Q wf en hp => tl F H A σ ρ Q wf en ?_⟩
  cases e : m ρ with
  | ok a ρ' => rw [e] at hp; exact fun b H' F' A' st wf' en' r pp => hp b H' F' A' st wf' en' (.inl r) pp
  | exc x ρ' => rw [e] at hp; exact hp
  | bad => rw [e] at hp; exact hp
theorem DR.dc {m : Mi D} (h : DR X W p G e m) : DC X W p G e m := by
  obtain ⟨t, pe, tl⟩ := h
  refine ⟨t, pe, fun F H A σ ρ Q wf en hp => tl F H A σ ρ Q wf en ?_⟩
  cases e : m ρ with
  | ok a ρ' => rw [e] at hp; exact fun b H' F' A' st wf' en' r pp => hp b H' F' A' st wf' en' r.rc pp
  | exc x ρ' => rw [e] at hp; exact hp
  | bad => rw [e] at hp; exact hp
theorem dr_var (i : Nat) {x : Str} {s : Sh} (hG : G[i]? = some s) (hs : Rdb s) (hN : X.N[i]? = some x) (hv : Vis X.env.scope x) (hd : (x == ("__debug__" : Str)) = false := by decide) (hcd : (x == ("__classdict__" : Str)) = false := by decide) : DR X W true G (.Name x pos) (eVar i) := by
  refine ⟨_, pe_var hN hv hd hcd, fun F H A σ ρ Q wf en hp => ?_⟩
  unfold eVar at hp
  split at hp
  · rename_i d e
    obtain ⟨v, B, e1, o, _⟩ := en.get hG e
    exact ⟨v, e1, hp.fin0 wf en (o.rr hs)⟩
  · exact hp.elim
theorem wf_cons {B : List Addr} (w : Wf F H (B ++ A)) : Wf F H A :=
  ⟨w.f, fun a ha => w.a a (List.mem_append_right _ ha), (List.nodup_append.mp w.nd).2.1, fun a ha => w.ap a (List.mem_append_right _ ha)⟩
theorem stp_cons {B : List Addr} {F' H' A'} (x : Stp F H A F' H' (B ++ A')) : Stp F H A F' H' A' := ⟨x.f, x.keep, fun b hb => x.own b (List.mem_append_right _ hb), x.fn⟩
theorem stay_f {F2 : FS} (f : ∀ a, F a → F2 a) : Stay F H A F2 H := ⟨⟨f, fun _ _ _ h => h, fun _ _ _ h => h⟩, fun _ _ => rfl⟩
/-- what is made anew stays from now on -/
theorem DO.de {m : Mi D} (h : DO X W p s G e m) (n : s.nf = true) : DE X W p G e m := by
  obtain ⟨t, pe, tl⟩ := h
  refine ⟨t, pe, fun F H A σ ρ Q wf en hp => tl F H A σ ρ Q wf en ?_⟩
  cases e : m ρ with
  | ok d ρ' =>
    rw [e] at hp
    intro v H' F' A' B st wf' en' o pp
    refine hp v H' (fun a => F' a ∨ a ∈ B) A' ⟨fun a h => .inl (st.f a h), st.keep, (stp_cons st).own, fun b hb => hb.elim (st.fn b) fun z => .inr (st.own b (List.mem_append_left _ z))⟩ ⟨fun a h => ?_, (wf_cons wf').a, (wf_cons wf').nd, fun a ha h => ?_⟩ (en'.mono (stay_f fun a h => .inl h)) (o.freeze n (fun a h => .inl h) fun b hb => .inr hb) fun q => ?_
    · rcases h with h | h
      · exact wf'.f a h
      · exact wf'.a a (List.mem_append_left _ h)
    · rcases h with h | h
      · exact wf'.ap a (List.mem_append_right _ ha) h
      · exact (List.nodup_append.mp wf'.nd).2.2 a h a ha rfl
    · obtain ⟨x, y, z, new⟩ := pp q
      refine ⟨⟨fun a h => .inl (x.f a h), x.keep, fun a h => ?_⟩, y, z⟩
      rcases h with h | h
      · exact x.new a h
      · exact .inr ⟨new a h, wf'.a a (List.mem_append_left _ h)⟩
  | exc x ρ' => rw [e] at hp; exact hp
  | bad => rw [e] at hp; exact hp
theorem PgO.after {o : Out D} {Q : VK} (st : Stp F H A F1 H1 A1) (e : p1 = true → Pst F H F1 H1 ∧ A1 = A ∧ ρ1 = ρ) (h : PgO X W (p1 && p2) s G σ F H A ρ o Q) : PgO X W p2 s G σ F1 H1 A1 ρ1 o Q := by
  have j : ∀ {F' H' A' ρ'}, (p2 = true → Pst F1 H1 F' H' ∧ A' = A1 ∧ ρ' = ρ1) → ((p1 && p2) = true → Pst F H F' H' ∧ A' = A ∧ ρ' = ρ) := fun z q => by
    obtain ⟨q1, q2⟩ := Bool.and_eq_true_iff.mp q
    obtain ⟨a, b, c⟩ := e q1
    obtain ⟨a', b', c'⟩ := z q2
    exact ⟨a.trans a', b'.trans b, c'.trans c⟩
  cases o with
  | ok a ρ' =>
    refine fun v H' F' A' B st' wf en r pp => h v H' F' A' B (st.trans st') wf en r fun q => ?_
    obtain ⟨q1, q2⟩ := Bool.and_eq_true_iff.mp q
    obtain ⟨a1, b1, c1⟩ := e q1
    obtain ⟨a2, b2, c2, n2⟩ := pp q2
    refine ⟨a1.trans a2, b2.trans b1, c2.trans c1, fun b hb => ?_⟩
    cases z : H b with
    | none => rfl
    | some u => have := a1.keep b u z; rw [n2 b hb] at this; cases this
  | exc x ρ' => exact fun cls dd H' F' A' st' wf en r pp => h cls dd H' F' A' (st.trans st') wf en r (j pp)
  | bad => exact h
end
end DM
/-! DmE: arguments, displays, subscripts, slices, and or not, if, calls of built-ins. -/
namespace DM
open PySem PySem.Spec PyProof.Rows L2

section
variable {X : Cx} {W : WX} {p p1 p2 p3 : Bool} {G : List Sh} {e a b c : Expr} {es : List Expr} {pos : Pos} {α β γ δ : Type} {R : Rel β α} {S : Rel δ γ} {F F1 : FS} {H H1 : Hp} {A A1 : List Addr} {σ : L2.St} {ρ ρ1 : Env} {s : Sh}
theorem Tl.useO {t : L2.St → Hp → (β → Hp → Prop) → Prop} {m : Mi α} {k : α → Mi D} {Q : VK} {Q1 : β → Hp → Prop} (h1 : Tl X W p1 R G t m) (wf : Wf F H A) (en : EnvR X.K F H G σ ρ A)
    (h : PgO X W (p1 && p2) s G σ F H A ρ (bnd m k ρ) Q)
    (hk : ∀ a ρ1 b H1 F1 A1, Stp F H A F1 H1 A1 → Wf F1 H1 A1 → EnvR X.K F1 H1 G σ ρ1 A1 → R F1 H1 b a → (p1 = true → Pst F H F1 H1) → PgO X W p2 s G σ F1 H1 A1 ρ1 (k a ρ1) Q → Q1 b H1) : t σ H Q1 := by
  refine h1 F H A σ ρ Q1 wf en ?_
  unfold bnd at h
  cases e : m ρ with
  | ok a ρ' =>
    rw [e] at h
    exact fun b H' F' A' st wf' en' r pp => hk a ρ' b H' F' A' st wf' en' r (fun q => (pp q).1) (PgO.after st pp h)
  | exc x ρ' =>
    rw [e] at h
    exact fun cls dd H' F' A' st wf' en' r pp => h cls dd H' F' A' st wf' en' r fun q => pp (Bool.and_eq_true_iff.mp q).1
  | bad => rw [e] at h; exact h
theorem PgO.lift {o : Option D} {Q : VK} (h : PgO X W p s G σ F H A ρ (DM.lift o ρ) Q) : ∃ d, o = some d ∧ PgO X W p s G σ F H A ρ (.ok d ρ) Q := by
  cases o with
  | none => exact (show False from h).elim
  | some d => exact ⟨d, rfl, h⟩
/-- one new owned object -/
theorem PgO.new {d : D} {Q : VK} {q : Addr} {o : HO} (wf : Wf F H A) (en : EnvR X.K F H G σ ρ A) (h : PgO X W p s G σ F H A ρ (.ok d ρ) Q) (hq : H q = none) (ow : Ow X.K F (upd H q o) s (.ref q) d [q]) : Q (.ref q) (upd H q o) := by
  have ps : Pst F H F (upd H q o) := Pst.lay0 hq wf.f
  refine h _ _ F A [q] ⟨fun _ h => h, fun b u e _ => ps.keep b u e, fun b hb => ?_, fun b hb => .inl hb⟩ ?_ (en.mono (ps.stay wf.a)) ow fun _ => ⟨ps, rfl, rfl, fun b hb => ?_⟩
  · rcases List.mem_cons.mp hb with z | z
    · subst z; exact .inr hq
    · exact .inl z
  · have w' := ps.wf wf
    refine ⟨w'.f, fun a ha => ?_, List.nodup_cons.mpr ⟨fun z => wf.a q z hq, wf.nd⟩, fun a ha => ?_⟩
    · rcases List.mem_cons.mp ha with z | z
      · subst z; rw [upd_same]; exact fun z => nomatch z
      · exact w'.a a z
    · rcases List.mem_cons.mp ha with z | z
      · subst z; exact fun f => wf.f _ f hq
      · exact wf.ap a z
  · rw [List.mem_singleton.mp hb]; exact hq
theorem Pg.mono_p {q : Bool} {o : Out α} {Q : β → Hp → Prop} (h : Pg X W q R G σ F H A ρ o Q) (hp : q = true → p = true) : Pg X W p R G σ F H A ρ o Q := by
  cases o with
  | ok a ρ' => exact fun b H' F' A' st wf en r pp => h b H' F' A' st wf en r fun z => pp (hp z)
  | exc x ρ' => exact fun cls dd H' F' A' st wf en r pp => h cls dd H' F' A' st wf en r fun z => pp (hp z)
  | bad => exact h

/-! ### arguments -/
def aNil : Mi (List D) := ret []
def aCons (m : Mi D) (ms : Mi (List D)) : Mi (List D) := bnd m fun x => bnd ms fun xs => ret (x :: xs)
theorem da_nil : DA X W true G [] aNil := ⟨_, pa_nil, fun F H A σ ρ Q wf en hp => hp.fin0 wf en ⟨.nil, rfl⟩⟩
theorem da_cons {m : Mi D} {ms : Mi (List D)} (h1 : DE X W p1 G e m) (h2 : DA X W p2 G es ms) (hs : starEach (e :: es) X.env = (false, eval e X.env) :: starEach es X.env := by rfl) : DA X W (p1 && (p2 && true)) G (e :: es) (aCons m ms) := by
  obtain ⟨t1, pe1, l1⟩ := h1
  obtain ⟨t2, pe2, l2⟩ := h2
  refine ⟨_, pa_cons pe1 pe2 hs, fun F H A σ ρ Q wf en hp => ?_⟩
  refine l1.use wf en hp fun d1 ρ1 x H1 F1 A1 s1 wf1 en1 r1 _ hp => ?_
  refine l2.use wf1 en1 hp fun d2 ρ2 y H2 F2 A2 s2 wf2 en2 r2 _ hp => ?_
  exact hp.fin0 wf2 en2 ⟨.cons (r1.mono (s2.fut wf1)) r2.1, congrArg (· + 1) r2.2⟩
/-- (a, b, ..) -/
def eTup (m : Mi (List D)) : Mi D := bnd m fun ds => lift (if ds.length ≤ 16777216 then some (.tup ds) else none)
theorem szl : sizeLine = 16777216 := by decide
theorem de_tup {m : Mi (List D)} {k} (h : DA X W p G es m) : DE X W (p && true) G (.Tuple es k pos) (eTup m) := by
  obtain ⟨t, pe, l⟩ := h
  refine ⟨_, pe_tup pe, fun F H A σ ρ Q wf en hp => ?_⟩
  refine l.use wf en hp fun ds ρ1 xs H1 F1 A1 s1 wf1 en1 r1 _ hp => ?_
  obtain ⟨d, e, hp⟩ := hp.lift
  split at e
  · cases e
    exact ⟨by rw [r1.1.length, szl]; assumption, fun q hq => hp.fin wf1 en1 (Pst.lay hq) (rp_new_tup hq r1.1)⟩
  · cases e
/-- [a, b, ..] -/
def eLst (m : Mi (List D)) : Mi D := bnd m fun ds => lift (if ds.length ≤ 16777216 then some (.lst ds) else none)
theorem ow_lst {K : PySem.W.Frag} {q : Addr} {vs ds} (hq : H q = none) (hF : ∀ a, F a → H a ≠ none) (r : Rps K F H vs ds) : Ow K F (upd H q (.lst vs)) (.lst .fz) (.ref q) (.lst ds) [q] :=
  ⟨q, vs, ds, [], rfl, rfl, upd_same, all3_of (r.mono (Pst.lay0 hq hF).fut), rfl⟩
theorem do_lst {m : Mi (List D)} (h : DA X W p G es m) : DO X W (p && true) (.lst .fz) G (.List es pos) (eLst m) := by
  obtain ⟨t, pe, l⟩ := h
  refine ⟨_, pe_lst pe, fun F H A σ ρ Q wf en hp => ?_⟩
  refine l.useO wf en hp fun ds ρ1 xs H1 F1 A1 s1 wf1 en1 r1 _ hp => ?_
  obtain ⟨d, e, hp⟩ := hp.lift
  split at e
  · cases e
    exact ⟨by rw [r1.1.length, szl]; assumption, fun q hq => hp.new wf1 en1 hq (ow_lst hq wf1.f r1.1)⟩
  · cases e

/-! ### subscripts -/
def ixD : D → D → Option D
  | .lst xs, .v (.int i) => atI xs i
  | .tup xs, .v (.int i) => atI xs i
  | .v (.str s), .v (.int i) => if s.length ≤ sizeLine then (atI s.cps.toList i).map fun c => .str ⟨#[c]⟩ else none
  | .scr ns, .v (.int i) => (atI ns i).map D.int
  | _, _ => none
def eIx (ma mb : Mi D) : Mi D := bnd ma fun x => bnd mb fun y => lift (ixD x y)
theorem atI_at {α : Type} {xs : List α} {i : Int} {v : α} (h : atI xs i = some v) : ∃ j, ixN xs.length i = some j ∧ xs[j]? = some v := by
  unfold atI at h
  cases e : ixN xs.length i with
  | none => rw [e] at h; cases h
  | some j => rw [e] at h; exact ⟨j, rfl, h⟩
theorem atI_of {α : Type} {xs : List α} {i : Int} {j : Nat} {v : α} (h1 : ixN xs.length i = some j) (h2 : xs[j]? = some v) : atI xs i = some v := by
  unfold atI
  rw [h1]
  exact h2
theorem ix_run {K : PySem.W.Frag} {x y : V} {d1 d2 d : D} {Q : VK} (rx : Rr K F H x d1) (ry : Rp K F H y d2) (e : ixD d1 d2 = some d) (k : ∀ w, Rp K F H w d → Q w H) : rIx K x y H Q := by
  have seq : ∀ {vs : List V} {ds : List D} {i : Int}, Rps K F H vs ds → atI ds i = some d → ∃ v, atI vs i = some v ∧ Rp K F H v d := fun {vs ds i} r h => by
    obtain ⟨j, h1, h2⟩ := atI_at h
    obtain ⟨v, h3, h4⟩ := r.get h2
    exact ⟨v, atI_of (by rw [r.length]; exact h1) h3, h4⟩
  unfold ixD at e
  split at e
  · cases ry
    rcases rx with h | ⟨q, vs, ds, rfl, e2, h, r⟩ | ⟨q, vs, ds, rfl, e2, h, r⟩ | ⟨q, vs, ds, rfl, e2, h, r⟩
    · cases h with
      | lst f h r =>
        obtain ⟨v, h1, h2⟩ := seq r e
        exact .inl ⟨_, _, _, v, rfl, rfl, SqL.of h, h1, k v h2⟩
    · cases e2
      obtain ⟨v, h1, h2⟩ := seq r e
      exact .inl ⟨_, _, _, v, rfl, rfl, SqL.of h, h1, k v h2⟩
    · cases e2
    · cases e2
  · cases ry
    rcases rx with h | ⟨q, vs, ds, rfl, e2, h, r⟩ | ⟨q, vs, ds, rfl, e2, h, r⟩ | ⟨q, vs, ds, rfl, e2, h, r⟩
    · cases h with
      | tup h r =>
        obtain ⟨v, h1, h2⟩ := seq r e
        exact .inr (.inl ⟨_, _, _, v, rfl, rfl, h.sq, h1, k v h2⟩)
    all_goals cases e2
  · cases ry
    rcases rx with h | ⟨q, vs, ds, rfl, e2, h, r⟩ | ⟨q, vs, ds, rfl, e2, h, r⟩ | ⟨q, vs, ds, rfl, e2, h, r⟩
    · cases h
      split at e
      · obtain ⟨c, h1, h2⟩ := Option.map_eq_some_iff.mp e
        subst h2
        exact .inr (.inr ⟨_, _, c, rfl, rfl, by assumption, h1, k _ (.v _)⟩)
      · cases e
    all_goals cases e2
  · cases ry
    rcases rx with h | ⟨q, vs, ds, rfl, e2, h, r⟩ | ⟨q, vs, ds, rfl, e2, h, r⟩ | ⟨q, vs, ds, rfl, e2, h, r⟩
    · cases h with
      | scr h =>
        obtain ⟨c, h1, h2⟩ := Option.map_eq_some_iff.mp e
        subst h2
        obtain ⟨j, h3, h4⟩ := atI_at h1
        exact .inl ⟨_, _, _, .int c, rfl, rfl, h.sq, atI_of (by rw [List.length_map]; exact h3) (by rw [List.getElem?_map, h4]; rfl), k _ (.v _)⟩
    all_goals cases e2
  · cases e
theorem de_ix {ma mb : Mi D} (ha : DE X W p1 G a ma) (hb : DE X W p2 G b mb) (hs : PlainIx b := by exact fun _ _ => rfl) : DE X W (p1 && (p2 && true)) G (.Subscript a b pos) (eIx ma mb) := by
  obtain ⟨ta, pa, la⟩ := ha
  obtain ⟨tb, pb, lb⟩ := hb
  refine ⟨_, pe_ix ix_seq pa pb hs, fun F H A σ ρ Q wf en hp => ?_⟩
  refine la.use wf en hp fun d1 ρ1 x H1 F1 A1 s1 wf1 en1 r1 _ hp => ?_
  refine lb.use wf1 en1 hp fun d2 ρ2 y H2 F2 A2 s2 wf2 en2 r2 _ hp => ?_
  obtain ⟨d, e, hp⟩ := hp.lift
  exact ix_run (.inl (r1.mono (s2.fut wf1))) r2 e fun w r => hp.fin0 wf2 en2 r
theorem de_ixR {ma mb : Mi D} (ha : DR X W p1 G a ma) (hb : DE X W true G b mb) (hs : PlainIx b := by exact fun _ _ => rfl) : DE X W (p1 && (true && true)) G (.Subscript a b pos) (eIx ma mb) := by
  obtain ⟨ta, pa, la⟩ := ha
  obtain ⟨tb, pb, lb⟩ := hb
  refine ⟨_, pe_ix ix_seq pa pb hs, fun F H A σ ρ Q wf en hp => ?_⟩
  refine la.use wf en hp fun d1 ρ1 x H1 F1 A1 s1 wf1 en1 r1 _ hp => ?_
  refine lb.use wf1 en1 hp fun d2 ρ2 y H2 F2 A2 s2 wf2 en2 r2 ps hp => ?_
  obtain ⟨d, e, hp⟩ := hp.lift
  exact ix_run (r1.later (ps rfl)) r2 e fun w r => hp.fin0 wf2 en2 r

/-! ### slices -/
def cutL {α : Type} (xs : List α) (lo hi : Option Int) : List α := (xs.drop (HT.sIx xs.length 0 lo)).take (HT.sIx xs.length xs.length hi - HT.sIx xs.length 0 lo)
def asI : D → Option Int
  | .v (.int i) => some i
  | _ => none
def slD : D → Option Int → Option Int → Option D
  | .tup xs, lo, hi => some (.tup (cutL xs lo hi))
  | .v (.str s), lo, hi => if s.length ≤ sizeLine then some (.str (cutS s lo hi)) else none
  | _, _, _ => none
def slLD : D → Option Int → Option Int → Option D
  | .lst xs, lo, hi => some (.lst (cutL xs lo hi))
  | _, _, _ => none
def oNone : Mi (Option Int) := ret none
def oSome (m : Mi D) : Mi (Option Int) := bnd m fun x => lift ((asI x).map some)
/-- a part of a slice -/
def DP (X : Cx) (W : WX) (p : Bool) (G : List Sh) (e : Option Expr) (m : Mi (Option Int)) : Prop := ∃ t, PO X e t ∧ Tl X W p (fun _ _ a b => a = b) G t m
theorem dp_none : DP X W true G none oNone := ⟨_, po_none, fun F H A σ ρ Q wf en hp => hp.fin0 wf en rfl⟩
theorem dp_some {m : Mi D} (h : DE X W p G e m) : DP X W (p && true) G (some e) (oSome m) := by
  obtain ⟨t, pe, l⟩ := h
  refine ⟨_, po_some pe, fun F H A σ ρ Q wf en hp => ?_⟩
  refine l.use wf en hp fun d1 ρ1 x H1 F1 A1 s1 wf1 en1 r1 _ hp => ?_
  obtain ⟨d, e, hp⟩ := hp.lift
  obtain ⟨i, h1, h2⟩ := Option.map_eq_some_iff.mp e
  subst h2
  unfold asI at h1
  split at h1
  · cases h1; cases r1; exact ⟨_, rfl, hp.fin0 wf1 en1 rfl⟩
  · cases h1
def eSl (f : D → Option Int → Option Int → Option D) (ma : Mi D) (ml mh : Mi (Option Int)) : Mi D := bnd ma fun x => bnd ml fun lo => bnd mh fun hi => lift (f x lo hi)
theorem cut_rps {K : PySem.W.Frag} {vs ds} (r : Rps K F H vs ds) (lo hi : Option Int) : Rps K F H (cutV vs lo hi) (cutL ds lo hi) := by
  unfold cutV cutL
  rw [r.length]
  exact (r.drop _).take _
theorem cut_whole {α : Type} {xs : List α} {lo hi : Option Int} (h : HT.sIx xs.length 0 lo = 0 ∧ HT.sIx xs.length xs.length hi = xs.length) : cutL xs lo hi = xs := by
  unfold cutL
  rw [h.1, h.2]
  simp
variable {lo hi : Option Expr} {q2 : Pos}
theorem de_sl {ma : Mi D} {ml mh : Mi (Option Int)} (ha : DE X W p1 G a ma) (hl : DP X W p2 G lo ml) (hh : DP X W p3 G hi mh) : DE X W (p1 && (p2 && (p3 && true))) G (.Subscript a (.Slice lo hi none q2) pos) (eSl slD ma ml mh) := by
  obtain ⟨ta, pa, la⟩ := ha
  obtain ⟨tl, pl, ll⟩ := hl
  obtain ⟨th, ph, lh⟩ := hh
  refine ⟨_, pe_slice (sl_tupA.or sl_str) pa pl ph, fun F H A σ ρ Q wf en hp => ?_⟩
  refine la.use wf en hp fun d1 ρ1 x H1 F1 A1 s1 wf1 en1 r1 _ hp => ?_
  refine ll.use wf1 en1 hp fun lo ρ2 lo' H2 F2 A2 s2 wf2 en2 el _ hp => ?_
  refine lh.use wf2 en2 hp fun hi ρ3 hi' H3 F3 A3 s3 wf3 en3 eh _ hp => ?_
  subst el; subst eh
  obtain ⟨d, e, hp⟩ := hp.lift
  have r3 := (r1.mono (s2.fut wf1)).mono (s3.fut wf2)
  unfold slD at e
  split at e
  · cases e
    cases r3 with
    | tup h r =>
      refine .inl ⟨_, _, rfl, h.sq, fun hw => ?_, fun hw q hq => hp.fin wf3 en3 (Pst.lay hq) (rp_new_tup hq (cut_rps r _ _))⟩
      refine hp.fin0 wf3 en3 ?_
      rw [cut_whole (by rw [← r.length]; exact hw)]
      exact .tup h r
  · split at e
    · cases e
      cases r3
      exact .inr ⟨_, rfl, by assumption, hp.fin0 wf3 en3 (.v _)⟩
    · cases e
  · cases e
/-- xs[a:b] of a list: a new list -/
theorem do_sl {ma : Mi D} {ml mh : Mi (Option Int)} (ha : DR X W p1 G a ma) (hl : DP X W true G lo ml) (hh : DP X W true G hi mh) : DO X W (p1 && (true && (true && true))) (.lst .fz) G (.Subscript a (.Slice lo hi none q2) pos) (eSl slLD ma ml mh) := by
  obtain ⟨ta, pa, la⟩ := ha
  obtain ⟨tl, pl, ll⟩ := hl
  obtain ⟨th, ph, lh⟩ := hh
  refine ⟨_, pe_slice sl_list pa pl ph, fun F H A σ ρ Q wf en hp => ?_⟩
  refine la.useO wf en hp fun d1 ρ1 x H1 F1 A1 s1 wf1 en1 r1 _ hp => ?_
  refine ll.useO wf1 en1 hp fun lo ρ2 lo' H2 F2 A2 s2 wf2 en2 el p2 hp => ?_
  refine lh.useO wf2 en2 hp fun hi ρ3 hi' H3 F3 A3 s3 wf3 en3 eh p3 hp => ?_
  subst el; subst eh
  obtain ⟨d, e, hp⟩ := hp.lift
  have r3 := (r1.later (p2 rfl)).later (p3 rfl)
  unfold slLD at e
  split at e
  · cases e
    rcases r3 with h | ⟨q, vs, ds, rfl, e2, h, r⟩ | ⟨q, vs, ds, rfl, e2, h, r⟩ | ⟨q, vs, ds, rfl, e2, h, r⟩
    · cases h with
      | lst f h r => exact ⟨_, _, rfl, SqL.of h, fun q hq => hp.new wf3 en3 hq (ow_lst hq wf3.f (cut_rps r _ _))⟩
    · cases e2
      exact ⟨_, _, rfl, SqL.of h, fun q hq => hp.new wf3 en3 hq (ow_lst hq wf3.f (cut_rps r _ _))⟩
    · cases e2
    · cases e2
  · cases e

/-! ### truth, and, or, not, if -/
def asB : D → Option Bool
  | .v (.bl b) => some b
  | _ => none
theorem asB_v {K : PySem.W.Frag} {v : V} {d : D} {k : Bool} (r : Rp K F H v d) (e : asB d = some k) : v = .bl k := by
  unfold asB at e
  split at e
  · cases e; cases r; rfl
  · cases e
def tVal (m : Mi D) : Mi Bool := bnd m fun x => lift (asB x)
theorem dt_val {m : Mi D} (h : DE X W p G e m) (he : ∀ whole, isTrue e X.env whole = (do let v ← whole; standAt e.pos; holding [v] (truthy v)) := by intro _; rfl) : DT X W (p && true) G e (tVal m) := by
  obtain ⟨t, pe, l⟩ := h
  refine ⟨_, pt_val pe he, fun F H A σ ρ Q wf en hp => ?_⟩
  refine l.use wf en hp fun d1 ρ1 x H1 F1 A1 s1 wf1 en1 r1 _ hp => ?_
  obtain ⟨k, e, hp⟩ := hp.lift
  exact ⟨k, asB_v r1 e, hp.fin0 wf1 en1 rfl⟩
theorem DW.dt {m : Mi Bool} (h : DW X W p G e m) : DT X W p G e m := by
  obtain ⟨t, pe, l⟩ := h
  exact ⟨t, pe.pt, l⟩
def tNotM (m : Mi Bool) : Mi Bool := bnd m fun k => ret (!k)
theorem dt_not {m : Mi Bool} (h : DT X W p G a m) : DT X W (p && true) G (.UnaryOp .Not a pos) (tNotM m) := by
  obtain ⟨t, pe, l⟩ := h
  refine ⟨_, pt_not pe, fun F H A σ ρ Q wf en hp => ?_⟩
  refine l.use wf en hp fun k ρ1 k' H1 F1 A1 s1 wf1 en1 r1 _ hp => ?_
  cases r1
  exact hp.fin0 wf1 en1 rfl
def tAndM (m n : Mi Bool) : Mi Bool := bnd m fun k => if k = true then n else ret false
def tOrM (m n : Mi Bool) : Mi Bool := bnd m fun k => if k = true then ret true else n
theorem dw_and1 {m : Mi Bool} (h : DT X W p G a m) : DW X W p G (.BoolOp .And [a] pos) m := by
  obtain ⟨t, pe, l⟩ := h
  exact ⟨t, pw_and1 pe, l⟩
theorem dw_or1 {m : Mi Bool} (h : DT X W p G a m) : DW X W p G (.BoolOp .Or [a] pos) m := by
  obtain ⟨t, pe, l⟩ := h
  exact ⟨t, pw_or1 pe, l⟩
variable {rest : List Expr}
theorem dw_and {m n : Mi Bool} (h1 : DT X W p1 G a m) (h2 : DW X W p2 G (.BoolOp .And (b :: rest) pos) n) : DW X W (p1 && p2) G (.BoolOp .And (a :: b :: rest) pos) (tAndM m n) := by
  obtain ⟨t1, pe1, l1⟩ := h1
  obtain ⟨t2, pe2, l2⟩ := h2
  refine ⟨_, pw_and pe1 pe2, fun F H A σ ρ Q wf en hp => ?_⟩
  refine l1.use wf en hp fun k ρ1 k' H1 F1 A1 s1 wf1 en1 r1 _ hp => ?_
  cases r1
  cases k with
  | true => exact iteT (l2 _ _ _ _ _ _ wf1 en1 hp)
  | false => exact iteF (hp.fin0 wf1 en1 rfl)
theorem dw_or {m n : Mi Bool} (h1 : DT X W p1 G a m) (h2 : DW X W p2 G (.BoolOp .Or (b :: rest) pos) n) : DW X W (p1 && p2) G (.BoolOp .Or (a :: b :: rest) pos) (tOrM m n) := by
  obtain ⟨t1, pe1, l1⟩ := h1
  obtain ⟨t2, pe2, l2⟩ := h2
  refine ⟨_, pw_or pe1 pe2, fun F H A σ ρ Q wf en hp => ?_⟩
  refine l1.use wf en hp fun k ρ1 k' H1 F1 A1 s1 wf1 en1 r1 _ hp => ?_
  cases r1
  cases k with
  | true => exact iteT (hp.fin0 wf1 en1 rfl)
  | false => exact iteF (l2 _ _ _ _ _ _ wf1 en1 hp)
/-- .. as values: all but the last a truth value -/
def eAnd (m n : Mi D) : Mi D := bnd m fun x => bnd (lift (asB x)) fun k => if k = true then n else ret (.bl false)
def eOr (m n : Mi D) : Mi D := bnd m fun x => bnd (lift (asB x)) fun k => if k = true then ret (.bl true) else n
def eNot (m : Mi D) : Mi D := bnd m fun x => bnd (lift (asB x)) fun k => ret (.bl (!k))
theorem de_one {op} {m : Mi D} (h : DE X W p G a m) : DE X W p G (.BoolOp op [a] pos) m := by
  obtain ⟨t, pe, l⟩ := h
  exact ⟨t, pe_one pe, l⟩
theorem Pg.liftB {o : Option α} {k : α → Mi γ} {Q : δ → Hp → Prop} (h : Pg X W p S G σ F H A ρ (bnd (DM.lift o) k ρ) Q) : ∃ d, o = some d ∧ Pg X W p S G σ F H A ρ (k d ρ) Q := by
  cases o with
  | none => exact (show False from h).elim
  | some d => exact ⟨d, rfl, h⟩
theorem de_and {m n : Mi D} (h1 : DE X W p1 G a m) (h2 : DE X W p2 G (.BoolOp .And (b :: rest) pos) n) : DE X W (p1 && p2) G (.BoolOp .And (a :: b :: rest) pos) (eAnd m n) := by
  obtain ⟨t1, pe1, l1⟩ := h1
  obtain ⟨t2, pe2, l2⟩ := h2
  refine ⟨_, pe_and pe1 pe2, fun F H A σ ρ Q wf en hp => ?_⟩
  refine l1.use wf en hp fun d ρ1 x H1 F1 A1 s1 wf1 en1 r1 _ hp => ?_
  obtain ⟨k, e, hp⟩ := hp.liftB
  refine ⟨k, asB_v r1 e, ?_⟩
  cases k with
  | true => exact iteT (l2 _ _ _ _ _ _ wf1 en1 hp)
  | false => exact iteF (hp.fin0 wf1 en1 (.v _))
theorem de_or {m n : Mi D} (h1 : DE X W p1 G a m) (h2 : DE X W p2 G (.BoolOp .Or (b :: rest) pos) n) : DE X W (p1 && p2) G (.BoolOp .Or (a :: b :: rest) pos) (eOr m n) := by
  obtain ⟨t1, pe1, l1⟩ := h1
  obtain ⟨t2, pe2, l2⟩ := h2
  refine ⟨_, pe_or pe1 pe2, fun F H A σ ρ Q wf en hp => ?_⟩
  refine l1.use wf en hp fun d ρ1 x H1 F1 A1 s1 wf1 en1 r1 _ hp => ?_
  obtain ⟨k, e, hp⟩ := hp.liftB
  refine ⟨k, asB_v r1 e, ?_⟩
  cases k with
  | true => exact iteT (hp.fin0 wf1 en1 (.v _))
  | false => exact iteF (l2 _ _ _ _ _ _ wf1 en1 hp)
theorem de_not {m : Mi D} (h : DE X W p G a m) : DE X W (p && true) G (.UnaryOp .Not a pos) (eNot m) := by
  obtain ⟨t, pe, l⟩ := h
  refine ⟨_, pe_not pe, fun F H A σ ρ Q wf en hp => ?_⟩
  refine l.use wf en hp fun d ρ1 x H1 F1 A1 s1 wf1 en1 r1 _ hp => ?_
  obtain ⟨k, e, hp⟩ := hp.liftB
  exact ⟨k, asB_v r1 e, hp.fin0 wf1 en1 (.v _)⟩
def eIf (c : Mi Bool) (m n : Mi D) : Mi D := bnd c fun k => if k = true then m else n
theorem de_if {mc : Mi Bool} {m n : Mi D} (hc : DT X W p1 G c mc) (h1 : DE X W p2 G a m) (h2 : DE X W p3 G b n) : DE X W (p1 && (p2 && p3)) G (.IfExp c a b pos) (eIf mc m n) := by
  obtain ⟨tc, pec, lc⟩ := hc
  obtain ⟨t1, pe1, l1⟩ := h1
  obtain ⟨t2, pe2, l2⟩ := h2
  refine ⟨_, pe_ifExp pec pe1 pe2, fun F H A σ ρ Q wf en hp => ?_⟩
  refine lc.use wf en hp fun k ρ1 k' H1 F1 A1 s1 wf1 en1 r1 _ hp => ?_
  cases r1
  cases k with
  | true => exact iteT (l1 _ _ _ _ _ _ wf1 en1 (Pg.mono_p hp fun z => (Bool.and_eq_true_iff.mp z).1))
  | false => exact iteF (l2 _ _ _ _ _ _ wf1 en1 (Pg.mono_p hp fun z => (Bool.and_eq_true_iff.mp z).2))
/-- -a -/
def opNeg : D → Option D
  | .v (.int i) => some (.int (-i))
  | _ => none
def eUn (f : D → Option D) (m : Mi D) : Mi D := bnd m fun x => lift (f x)
theorem de_neg {m : Mi D} (h : DE X W p G a m) : DE X W (p && true) G (.UnaryOp .USub a pos) (eUn opNeg m) := by
  obtain ⟨t, pe, l⟩ := h
  refine ⟨_, pe_un un_neg pe, fun F H A σ ρ Q wf en hp => ?_⟩
  refine l.use wf en hp fun d ρ1 x H1 F1 A1 s1 wf1 en1 r1 _ hp => ?_
  obtain ⟨z, e, hp⟩ := hp.lift
  unfold opNeg at e
  split at e
  · cases e; cases r1; exact ⟨_, rfl, hp.fin0 wf1 en1 (.v _)⟩
  · cases e
/-- a op b op' c -/
theorem de_chain {op op' : CmpOp} {r r' : R2} {f g : D → D → Option Bool} {ma mb mc : Mi D} (ho : OpR X (compareOp op) r) (ho' : OpR X (compareOp op') r') (hf : VCmp X.K r f) (hg : VCmp X.K r' g) (ha : DE X W p1 G a ma) (hb : DE X W p2 G b mb) (hc : DE X W p3 G c mc)
    (hm : lastMarks [op, op'] [b, c] = false := by with_unfolding_all rfl) : DE X W (p1 && (p2 && (p3 && true))) G (.Compare a [op, op'] [b, c] pos) (eChain f g ma mb mc) := by
  obtain ⟨ta, pa, la⟩ := ha
  obtain ⟨tb, pb, lb⟩ := hb
  obtain ⟨tc, pc, lc⟩ := hc
  refine ⟨_, pe_chain ho ho' pa pb pc hm, fun F H A σ ρ Q wf en hp => ?_⟩
  refine la.use wf en hp fun d1 ρ1 x H1 F1 A1 s1 wf1 en1 r1 _ hp => ?_
  refine lb.use wf1 en1 hp fun d2 ρ2 y H2 F2 A2 s2 wf2 en2 r2 _ hp => ?_
  obtain ⟨k, e, hp⟩ := hp.liftB
  refine hf H2 x y d1 d2 k _ (r1.mono (s2.fut wf1)).rc r2.rc e ⟨k, rfl, ?_⟩
  cases k with
  | false => exact iteF (hp.fin0 wf2 en2 (.v _))
  | true =>
    refine iteT ?_
    refine lc.use wf2 en2 hp fun d3 ρ3 z H3 F3 A3 s3 wf3 en3 r3 _ hp => ?_
    obtain ⟨d, e', hp⟩ := hp.lift
    obtain ⟨k', h1, h2⟩ := Option.map_eq_some_iff.mp e'
    subst h2
    exact hg H3 y z d2 d3 k' _ (r2.mono (s3.fut wf2)).rc r3.rc h1 (hp.fin0 wf3 en3 (.v _))
theorem dt_chain {op op' : CmpOp} {r r' : R2} {f g : D → D → Option Bool} {ma mb mc : Mi D} (ho : OpR X (compareOp op) r) (ho' : OpR X (compareOp op') r') (hf : VCmp X.K r f) (hg : VCmp X.K r' g) (ha : DE X W p1 G a ma) (hb : DE X W p2 G b mb) (hc : DE X W p3 G c mc)
    (hm : lastMarks [op, op'] [b, c] = false := by with_unfolding_all rfl) : DT X W (p1 && (p2 && (p3 && true))) G (.Compare a [op, op'] [b, c] pos) (tChn f g ma mb mc) := by
  obtain ⟨ta, pa, la⟩ := ha
  obtain ⟨tb, pb, lb⟩ := hb
  obtain ⟨tc, pc, lc⟩ := hc
  refine ⟨_, pt_chain ho ho' pa pb pc hm, fun F H A σ ρ Q wf en hp => ?_⟩
  refine la.use wf en hp fun d1 ρ1 x H1 F1 A1 s1 wf1 en1 r1 _ hp => ?_
  refine lb.use wf1 en1 hp fun d2 ρ2 y H2 F2 A2 s2 wf2 en2 r2 _ hp => ?_
  obtain ⟨k, e, hp⟩ := hp.liftB
  refine hf H2 x y d1 d2 k _ (r1.mono (s2.fut wf1)).rc r2.rc e ⟨k, rfl, ?_⟩
  cases k with
  | false => exact iteF ⟨_, rfl, hp.fin0 wf2 en2 rfl⟩
  | true =>
    refine iteT ?_
    refine lc.use wf2 en2 hp fun d3 ρ3 z H3 F3 A3 s3 wf3 en3 r3 _ hp => ?_
    obtain ⟨k', h1, hp⟩ := hp.lift
    exact hg H3 y z d2 d3 k' _ (r2.mono (s3.fut wf2)).rc r3.rc h1 ⟨_, rfl, hp.fin0 wf3 en3 rfl⟩
end
end DM
/-! DmF: defs: their promise by a function of data; calls. -/
namespace DM
open PySem PySem.Spec PyProof.Rows L2

/-- what a def gives: its value and its arguments as they are then -/
inductive FO where
  | ok (d : D) (ds : List D)
  | exc (x : Xn) (ds : List D)
  | bad
abbrev Mf := List D → FO

section
variable (P : Program) (w : World) (K : PySem.W.Frag) (mg : Str → Option Value) (base : Heap)
/-- like FnOk; where no repr is under way -/
structure FnG (k : Nat) (f : Addr) (fd : FuncData) (ps : List Str) (sp : Sp) : Prop where
  len : ∀ vs H Q E, sp vs H Q E → vs.length = ps.length
  run : ∀ (A : Around) (outer : List PySem.Env) (s : Shared) (H : Hp) (args : Args) (us : List Value) (vs : List V) (Q : VK) (E : XK), Room k A → A.guards = some [] → Env0 P w K mg base A outer s H →
    BindsTo s fd args (ps.zip us) → Vals vs us → sp vs H Q E → codeAny (model P w) A (.call (.ref f) args) (CR (L2.CX P w) outer P w H s Q E) s
end
section
variable {P : Program} {w : World} {K : PySem.W.Frag} {mg : Str → Option Value} {base : Heap}
theorem FnG.mono {j k : Nat} {f fd ps sp} (F : FnG P w K mg base j f fd ps sp) (h : j ≤ k) : FnG P w K mg base k f fd ps sp :=
  ⟨F.len, fun A outer s H args us vs Q E hr => F.run A outer s H args us vs Q E (hr.mono h)⟩
/-- a def, by its body -/
theorem FnG.of {x qual : Str} {st : Stmt} {f : Addr} {fd : FuncData} {N ps : List Str} {k : Nat} {sp : Sp} (F : Fun K x qual st f fd) (S : FnScope N ps (defScope st)) (len : ∀ vs H Q E, sp vs H Q E → vs.length = ps.length)
    (hbody : ∀ (cdv : Value) (A : Around) (outer : List PySem.Env) (s : Shared) (H : Hp) (vs : List V) (Q : VK) (E : XK), Room k (A.deeper (envOfC qual (defScope st) s.heap.objs.size f cdv)) → (A.deeper (envOfC qual (defScope st) s.heap.objs.size f cdv)).guards = some [] → sp vs H Q E →
      ∃ t, PSs (cxOf (L2.CX P w) P w K mg base N qual (defScope st) f cdv A outer s H E) (defBody st) t ∧ t { nx := fun _ H' => Q .non H', rt := Q } (start N vs) H) : FnG P w K mg base (k + 1) f fd ps sp := by
  obtain ⟨oc, od, kV, doc, pm, an, cdv, ct, osl, e0, lk, hcd⟩ := F.ex
  subst e0
  constructor
  · exact len
  intro A outer s H args us vs Q E hr hg e0 hb r hsp
  have old : ∀ b o, base.get? b = some o → s.heap.get? b = some o := fun b o e => (e0.bs b o e).1
  have inS : K.In s.heap := e0.mod.kin.keeps old
  apply codeAny_call_function hr.depth (inS _ _ lk) rfl S.co S.gen rfl (PySem.W.codeRec_of inS hcd)
  apply hb
  apply wpAny_newFunctionEnv_cells S.kind
  · intro y hy
    obtain ⟨n, v⟩ := y
    cases S.par n (List.of_mem_zip hy).1 with
    | inl q => exact .inl q
    | inr q => exact .inr ⟨q, PySem.W.cellsFrom_some _ _ _ (.inl q)⟩
  · intro env he s1 x
    subst he
    refine ⟨(e0.mod.nolimit.keeps old).keeps x.toInCall.keep, codeAny_func ?_⟩
    obtain ⟨t, pt, ht⟩ := hbody cdv A outer s H vs Q E (hr.deeper _) (by show A.guards = some []; exact hg) hsp
    have I := inv_start (CX := L2.CX P w) (E := E) S hr.hd e0 (len _ _ _ _ hsp) r x
    refine wpAny_mono (pt.run [] s1 (start N vs) H _ I ht) ?_ (fun _ _ z => z)
    intro fl s' hs
    cases fl with
    | next =>
      obtain ⟨σ2, H2, J, q⟩ := hs
      exact ⟨.non, H2, J.os, J.bare, J.base, J.hok, rfl, q⟩
    | ret u =>
      obtain ⟨v, σ2, H2, J, rv, q⟩ := hs
      exact ⟨v, H2, J.os, J.bare, J.base, J.hok, rv, q⟩
    | brk => obtain ⟨_, _, _, q⟩ := hs; exact q.elim
    | cont => obtain ⟨_, _, _, q⟩ := hs; exact q.elim
end

/-! ### the promise by data -/
/-- the arguments: sh their shapes, sr the shape of what is handed back -/
def spD (K : PySem.W.Frag) (mg : Str → Option Value) (sh : List Sh) (sr : Sh) (m : Mf) : Sp := fun vs H Q E => vs.length = sh.length ∧ ∃ F A ds, Wf F H A ∧ EnvR K F H sh (vs.map some) (ds.map some) A ∧
  match m ds with
  | .ok d ds' => ∀ v H' F' A' B, Stp F H A F' H' (B ++ A') → Wf F' H' (B ++ A') → EnvR K F' H' sh (vs.map some) (ds'.map some) A' → Ow K F' H' sr v d B → Q v H'
  | .exc x ds' => ∀ cls dd H' F' A', Stp F H A F' H' A' → Wf F' H' A' → EnvR K F' H' sh (vs.map some) (ds'.map some) A' → XR K mg F' H' x cls dd → E cls dd H'
  | .bad => False

/-! ### arguments that are handed over as owned -/
section
variable {K : PySem.W.Frag} {F : FS} {H : Hp} {A B : List Addr} {σ : L2.St} {ρ : Env} {G : List Sh}
theorem Wf.perm (h : Wf F H A) (p : A.Perm B) : Wf F H B := ⟨h.f, fun a ha => h.a a (p.mem_iff.mpr ha), p.nodup_iff.mp h.nd, fun a ha => h.ap a (p.mem_iff.mpr ha)⟩
/-- an owned slot taken out -/
theorem EnvR.take : ∀ {G : List Sh} {σ : L2.St} {ρ : Env} {A} {i : Nat} {s : Sh} {d : D}, EnvR K F H G σ ρ A → G[i]? = some s → ρ[i]? = some (some d) →
    ∃ v B A', σ[i]? = some (some v) ∧ Ow K F H s v d B ∧ EnvR K F H G σ (ρ.set i none) A' ∧ A.Perm (B ++ A')
  | [], [], [], _, i, s, d, h, e, _ => by simp at e
  | _ :: G, _ :: σ, none :: ρ, A, 0, s, d, h, _, e => by simp at e
  | g :: G, x :: σ, none :: ρ, A, i + 1, s, d, h, e, e' => by
    obtain ⟨v, B, A', a, b, c, q⟩ := EnvR.take (i := i) (show EnvR K F H _ _ _ _ from by simpa only [EnvR] using h) (by simpa using e) (by simpa using e')
    exact ⟨v, B, A', by simpa using a, b, by simpa only [List.set, EnvR] using c, q⟩
  | g :: G, some v :: σ, some d' :: ρ, A, 0, s, d, ⟨A1, A2, h1, h2, eA⟩, e, e' => by
    simp at e e'; subst e; subst e'
    exact ⟨v, A1, A2, rfl, h1, by simpa only [List.set, EnvR] using h2, by rw [eA]⟩
  | g :: G, some w :: σ, some d' :: ρ, A, i + 1, s, d, ⟨A1, A2, h1, h2, eA⟩, e, e' => by
    obtain ⟨v, B, A', a, b, c, q⟩ := EnvR.take (i := i) h2 (by simpa using e) (by simpa using e')
    refine ⟨v, B, A1 ++ A', by simpa using a, b, ⟨A1, A', h1, c, rfl⟩, ?_⟩
    rw [eA]
    refine (List.Perm.append_left A1 q).trans ?_
    rw [← List.append_assoc, ← List.append_assoc]
    exact List.Perm.append_right A' List.perm_append_comm
  | [], [], _ :: _, _, _, _, _, h, _, _ => by simp [EnvR] at h
  | [], _ :: _, _, _, _, _, _, h, _, _ => by simp [EnvR] at h
  | _ :: _, [], _, _, _, _, _, h, _, _ => by simp [EnvR] at h
  | _ :: _, _ :: _, [], _, _, _, _, h, _, _ => by simp [EnvR] at h
  | _ :: _, none :: _, some _ :: _, _, _, _, _, h, _, _ => by simp [EnvR] at h
/-- .. put back -/
theorem EnvR.put : ∀ {G : List Sh} {σ : L2.St} {ρ : Env} {A} {i : Nat} {s : Sh} {v : V} {d : D} {B}, EnvR K F H G σ ρ A → G[i]? = some s → ρ[i]? = some none → σ[i]? = some (some v) → Ow K F H s v d B →
    ∃ A', EnvR K F H G σ (ρ.set i (some d)) A' ∧ A'.Perm (B ++ A)
  | [], [], [], _, i, s, v, d, B, h, e, _, _, _ => by simp at e
  | g :: G, x :: σ, none :: ρ, A, 0, s, v, d, B, h, e, _, e2, o => by
    simp at e e2; subst e; subst e2
    exact ⟨B ++ A, ⟨B, A, o, by simpa only [EnvR] using h, rfl⟩, List.Perm.refl _⟩
  | g :: G, x :: σ, some d' :: ρ, A, 0, s, v, d, B, h, e, e1, e2, o => by simp at e1
  | g :: G, x :: σ, none :: ρ, A, i + 1, s, v, d, B, h, e, e1, e2, o => by
    obtain ⟨A', c, q⟩ := EnvR.put (i := i) (show EnvR K F H _ _ _ _ from by simpa only [EnvR] using h) (by simpa using e) (by simpa using e1) (by simpa using e2) o
    exact ⟨A', by simpa only [List.set, EnvR] using c, q⟩
  | g :: G, some w :: σ, some d' :: ρ, A, i + 1, s, v, d, B, ⟨A1, A2, h1, h2, eA⟩, e, e1, e2, o => by
    obtain ⟨A', c, q⟩ := EnvR.put (i := i) h2 (by simpa using e) (by simpa using e1) (by simpa using e2) o
    refine ⟨A1 ++ A', ⟨A1, A', h1, c, rfl⟩, ?_⟩
    rw [eA]
    refine (List.Perm.append_left A1 q).trans ?_
    rw [← List.append_assoc, ← List.append_assoc]
    exact List.Perm.append_right A2 List.perm_append_comm
  | [], [], _ :: _, _, _, _, _, _, _, h, _, _, _, _ => by simp [EnvR] at h
  | [], _ :: _, _, _, _, _, _, _, _, h, _, _, _, _ => by simp [EnvR] at h
  | _ :: _, [], _, _, _, _, _, _, _, h, _, _, _, _ => by simp [EnvR] at h
  | _ :: _, _ :: _, [], _, _, _, _, _, _, h, _, _, _, _ => by simp [EnvR] at h
  | _ :: _, none :: _, some _ :: _, _, _, _, _, _, _, h, _, _, _, _ => by simp [EnvR] at h

/-- what an argument is: a value, or the owned thing at a slot -/
abbrev Ag := Sum D Nat
/-- values side by side: those that stay, and the slots' own -/
inductive AgR (K : PySem.W.Frag) (F : FS) (H : Hp) (G : List Sh) (σ : L2.St) : List Sh → List V → List Ag → Prop
  | nil : AgR K F H G σ [] [] []
  | val {v d sh vs xs} : Rp K F H v d → AgR K F H G σ sh vs xs → AgR K F H G σ (.fz :: sh) (v :: vs) (.inl d :: xs)
  | own {g s v i sh vs xs} : G[i]? = some g → (g = s ∨ g = .at_ v s) → σ[i]? = some (some v) → AgR K F H G σ sh vs xs → AgR K F H G σ (s :: sh) (v :: vs) (.inr i :: xs)
theorem AgR.mono {F' : FS} {H' : Hp} (m : Fut F H F' H') : ∀ {sh vs xs}, AgR K F H G σ sh vs xs → AgR K F' H' G σ sh vs xs
  | _, _, _, .nil => .nil
  | _, _, _, .val r t => .val (r.mono m) (AgR.mono m t)
  | _, _, _, .own a c b t => .own a c b (AgR.mono m t)
theorem AgR.len : ∀ {sh vs xs}, AgR K F H G σ sh vs xs → vs.length = sh.length
  | _, _, _, .nil => rfl
  | _, _, _, .val r t => congrArg (· + 1) (AgR.len t)
  | _, _, _, .own a c b t => congrArg (· + 1) (AgR.len t)
/-- the things handed over, the slots empty meanwhile -/
def fetch : List Ag → Env → Option (List D × Env)
  | [], ρ => some ([], ρ)
  | .inl d :: xs, ρ => (fetch xs ρ).map fun r => (d :: r.1, r.2)
  | .inr i :: xs, ρ => match ρ[i]? with
    | some (some d) => (fetch xs (ρ.set i none)).map fun r => (d :: r.1, r.2)
    | _ => none
/-- .. and laid back -/
def putBack : List Ag → List D → Env → Option Env
  | [], [], ρ => some ρ
  | .inl _ :: xs, _ :: ds, ρ => putBack xs ds ρ
  | .inr i :: xs, d :: ds, ρ => match ρ[i]? with
    | some none => (putBack xs ds (ρ.set i (some d)))
    | _ => none
  | _, _, _ => none
theorem ow_sub {g s : Sh} {v : V} {d : D} (gs : g = s ∨ g = .at_ v s) (o : Ow K F H g v d B) : Ow K F H s v d B := by
  rcases gs with q | q
  · rw [← q]; exact o
  · rw [q] at o; exact o.2
theorem ow_sup {g s : Sh} {v : V} {d : D} (gs : g = s ∨ g = .at_ v s) (o : Ow K F H s v d B) : Ow K F H g v d B := by
  rcases gs with q | q
  · rw [q]; exact o
  · rw [q]; exact ⟨rfl, o⟩
theorem gather : ∀ {sh vs xs} {ρ ρ1 : Env} {A ds}, AgR K F H G σ sh vs xs → EnvR K F H G σ ρ A → fetch xs ρ = some (ds, ρ1) →
    ∃ A1 A2, EnvR K F H sh (vs.map some) (ds.map some) A1 ∧ EnvR K F H G σ ρ1 A2 ∧ A.Perm (A1 ++ A2)
  | _, _, _, ρ, ρ1, A, ds, .nil, en, e => by
    cases e
    exact ⟨[], A, rfl, en, List.Perm.refl _⟩
  | _, _, _, ρ, ρ1, A, ds, .val (d := d) r t, en, e => by
    obtain ⟨⟨ds', ρ'⟩, h1, h2⟩ := Option.map_eq_some_iff.mp e
    cases h2
    obtain ⟨A1, A2, x, y, z⟩ := gather t en h1
    exact ⟨A1, A2, ⟨[], A1, ⟨r, rfl⟩, x, rfl⟩, y, z⟩
  | _, _, _, ρ, ρ1, A, ds, .own (i := i) g1 gs g2 t, en, e => by
    unfold fetch at e
    split at e
    · rename_i d ed
      obtain ⟨⟨ds', ρ'⟩, h1, h2⟩ := Option.map_eq_some_iff.mp e
      cases h2
      obtain ⟨v', B, A', s1, o, en', pm⟩ := en.take g1 ed
      rw [g2] at s1
      cases s1
      have o := ow_sub gs o
      obtain ⟨A1, A2, x, y, z⟩ := gather t en' h1
      refine ⟨B ++ A1, A2, ⟨B, A1, o, x, rfl⟩, y, pm.trans ?_⟩
      rw [List.append_assoc]
      exact List.Perm.append_left B z
    · cases e
theorem scatter : ∀ {sh vs xs} {ρ ρ1 : Env} {A2 A1 ds}, AgR K F H G σ sh vs xs → EnvR K F H G σ ρ A2 → EnvR K F H sh (vs.map some) (ds.map some) A1 → putBack xs ds ρ = some ρ1 →
    ∃ A, EnvR K F H G σ ρ1 A ∧ A.Perm (A1 ++ A2)
  | _, _, _, ρ, ρ1, A2, A1, ds, .nil, en, h, e => by
    cases ds with
    | nil =>
      cases e
      have h' : A1 = [] := h
      subst h'
      exact ⟨A2, en, List.Perm.refl _⟩
    | cons d ds => simp [EnvR] at h
  | _, _, _, ρ, ρ1, A2, A1, ds, .val r t, en, h, e => by
    cases ds with
    | nil => simp [EnvR] at h
    | cons d ds =>
      obtain ⟨B, A', h1, h2, h3⟩ := h
      obtain ⟨A, x, y⟩ := scatter t en h2 e
      refine ⟨A, x, ?_⟩
      have e1 : B = [] := h1.2
      rw [h3, e1]
      exact y
  | _, _, _, ρ, ρ1, A2, A1, ds, .own (i := i) g1 gs g2 t, en, h, e => by
    cases ds with
    | nil => simp [EnvR] at h
    | cons d ds =>
      obtain ⟨B, A', h1, h2, h3⟩ := h
      unfold putBack at e
      split at e
      · rename_i e1
        obtain ⟨A3, en', pm⟩ := en.put g1 e1 g2 (ow_sup gs h1)
        obtain ⟨A, x, y⟩ := scatter t en' h2 e
        refine ⟨A, x, y.trans ?_⟩
        rw [h3]
        refine (List.Perm.append_left A' pm).trans ?_
        rw [← List.append_assoc]
        exact List.Perm.append_right A2 List.perm_append_comm
      · cases e
end

/-- arguments, some of them owned things at slots -/
def DG (X : Cx) (W : WX) (p : Bool) (G : List Sh) (sh : List Sh) (es : List Expr) (m : Mi (List Ag)) : Prop :=
  ∃ t, PA X es t ∧ ∀ F H A σ ρ Q, Wf F H A → EnvR X.K F H G σ ρ A → Pg X W p (fun F H vs xs => AgR X.K F H G σ sh vs xs) G σ F H A ρ (m ρ) Q → t σ H Q
def gVal (m : Mi D) (ms : Mi (List Ag)) : Mi (List Ag) := bnd m fun x => bnd ms fun xs => ret (.inl x :: xs)
def gOwn (i : Nat) (ms : Mi (List Ag)) : Mi (List Ag) := fun ρ => match ρ[i]? with
  | some (some _) => bnd ms (fun xs => ret (.inr i :: xs)) ρ
  | _ => .bad
def gNil : Mi (List Ag) := ret []
section
variable {X : Cx} {W : WX} {p p1 p2 p3 : Bool} {G : List Sh} {e a b c : Expr} {es : List Expr} {pos : Pos} {α β γ δ : Type} {F F1 : FS} {H H1 : Hp} {A A1 : List Addr} {σ : L2.St} {ρ ρ1 : Env} {s : Sh} {sh : List Sh}
theorem dg_nil : DG X W true G [] [] gNil := ⟨_, pa_nil, fun F H A σ ρ Q wf en hp => hp.fin0 wf en .nil⟩
theorem dg_val {m : Mi D} {ms : Mi (List Ag)} (h1 : DE X W p1 G e m) (h2 : DG X W p2 G sh es ms) (hs : starEach (e :: es) X.env = (false, eval e X.env) :: starEach es X.env := by rfl) : DG X W (p1 && (p2 && true)) G (.fz :: sh) (e :: es) (gVal m ms) := by
  obtain ⟨t1, pe1, l1⟩ := h1
  obtain ⟨t2, pe2, l2⟩ := h2
  refine ⟨_, pa_cons pe1 pe2 hs, fun F H A σ ρ Q wf en hp => ?_⟩
  refine l1.use wf en hp fun d1 ρ1 x H1 F1 A1 s1 wf1 en1 r1 _ hp => ?_
  refine l2 _ _ _ _ _ _ wf1 en1 ?_
  unfold bnd at hp
  cases e : ms ρ1 with
  | ok xs ρ2 =>
    rw [e] at hp
    exact fun vs H2 F2 A2 s2 wf2 en2 r2 pp => hp _ H2 F2 A2 s2 wf2 en2 (.val (r1.mono (s2.fut wf1)) r2) fun q => pp (Bool.and_eq_true_iff.mp q).1
  | exc x ρ2 =>
    rw [e] at hp
    exact fun cls dd H2 F2 A2 s2 wf2 en2 r2 pp => hp cls dd H2 F2 A2 s2 wf2 en2 r2 fun q => pp (Bool.and_eq_true_iff.mp q).1
  | bad => rw [e] at hp; exact hp
theorem dg_own (i : Nat) {x : Str} {ms : Mi (List Ag)} (hG : G[i]? = some s) (hN : X.N[i]? = some x) (hv : Vis X.env.scope x) (h2 : DG X W p2 G sh es ms) (hs : starEach (.Name x pos :: es) X.env = (false, eval (.Name x pos) X.env) :: starEach es X.env := by rfl)
    (hd : (x == ("__debug__" : Str)) = false := by decide) (hcd : (x == ("__classdict__" : Str)) = false := by decide) : DG X W (p2 && true) G (s :: sh) (.Name x pos :: es) (gOwn i ms) := by
  obtain ⟨t2, pe2, l2⟩ := h2
  refine ⟨_, pa_cons (pe_var hN hv hd hcd) pe2 hs, fun F H A σ ρ Q wf en hp => ?_⟩
  unfold gOwn at hp
  split at hp
  rotate_left
  · exact hp.elim
  rename_i d ed
  obtain ⟨v, B, e1, o, _⟩ := en.get hG ed
  refine ⟨v, e1, l2 _ _ _ _ _ _ wf en ?_⟩
  unfold bnd at hp
  cases e : ms ρ with
  | ok xs ρ2 =>
    rw [e] at hp
    exact fun vs H2 F2 A2 s2 wf2 en2 r2 pp => hp _ H2 F2 A2 s2 wf2 en2 (.own hG (.inl rfl) e1 r2) fun q => pp (Bool.and_eq_true_iff.mp q).1
  | exc x ρ2 =>
    rw [e] at hp
    exact fun cls dd H2 F2 A2 s2 wf2 en2 r2 pp => hp cls dd H2 F2 A2 s2 wf2 en2 r2 fun q => pp (Bool.and_eq_true_iff.mp q).1
  | bad => rw [e] at hp; exact hp
theorem dg_ownA (i : Nat) {x : Str} {u : V} {ms : Mi (List Ag)} (hG : G[i]? = some (.at_ u s)) (hN : X.N[i]? = some x) (hv : Vis X.env.scope x) (h2 : DG X W p2 G sh es ms) (hs : starEach (.Name x pos :: es) X.env = (false, eval (.Name x pos) X.env) :: starEach es X.env := by rfl)
    (hd : (x == ("__debug__" : Str)) = false := by decide) (hcd : (x == ("__classdict__" : Str)) = false := by decide) : DG X W (p2 && true) G (s :: sh) (.Name x pos :: es) (gOwn i ms) := by
  obtain ⟨t2, pe2, l2⟩ := h2
  refine ⟨_, pa_cons (pe_var hN hv hd hcd) pe2 hs, fun F H A σ ρ Q wf en hp => ?_⟩
  unfold gOwn at hp
  split at hp
  rotate_left
  · exact hp.elim
  rename_i d ed
  obtain ⟨v, B, e1, o, _⟩ := en.get hG ed
  have ev : v = u := o.1
  refine ⟨v, e1, l2 _ _ _ _ _ _ wf en ?_⟩
  unfold bnd at hp
  cases e : ms ρ with
  | ok xs ρ2 =>
    rw [e] at hp
    exact fun vs H2 F2 A2 s2 wf2 en2 r2 pp => hp _ H2 F2 A2 s2 wf2 en2 (.own hG (.inr (by rw [ev])) e1 r2) fun q => pp (Bool.and_eq_true_iff.mp q).1
  | exc x ρ2 =>
    rw [e] at hp
    exact fun cls dd H2 F2 A2 s2 wf2 en2 r2 pp => hp cls dd H2 F2 A2 s2 wf2 en2 r2 fun q => pp (Bool.and_eq_true_iff.mp q).1
  | bad => rw [e] at hp; exact hp
end
end DM
/-! DmG: calls of defs. -/
namespace DM
open PySem PySem.Spec PyProof.Rows L2

section
variable {X : Cx} {W : WX} {p p1 p2 p3 : Bool} {G : List Sh} {e a b c : Expr} {es : List Expr} {kws : List Keyword} {q pos : Pos} {F F1 : FS} {H H1 : Hp} {A A1 : List Addr} {σ : L2.St} {ρ ρ1 : Env} {s sr : Sh} {sh : List Sh} {k : Nat} {f : Addr} {fd : FuncData} {ps ks : List Str} {sp : Sp} {x : Str}
  {g : List Value → List Value → List Value} {gV : List V → List V → List V} {n : Nat}
/-- the callee runs -/
theorem run_g {pins : List (Addr × Obj)} {s : Shared} {Q : VK} {us ws : List Value} {vs zs : List V} (Fn : FnG X.prog X.w X.K X.mg X.base k f fd ps sp) (hr : Room k X.A) (hgd : X.A.guards = some []) (tk : Takes X W) (hb : KBn X.K fd ps n ks g gV)
    (I : Inv X pins σ H s) (l1 : us.length = n) (l2 : ws.length = ks.length) (r : Vals vs us) (rz : Vals zs ws) (h : sp (gV vs zs) H Q (WE W σ)) : wpAny (model X.prog X.w) X.A (call (.ref f) us (ks.zip ws)) (EP X pins σ Q) X.xe s := by
  apply wpAny_call
  refine codeAny_mono (Fn.run X.A X.stack s H ⟨us, ks.zip ws⟩ (g us ws) (gV vs zs) Q (WE W σ) hr hgd I.env0 (hb.to s us ws I.kIn l1 l2) (hb.rel r rz) h) fun r s' hq => ?_
  cases r with
  | error e => exact passAt tk σ pins H s e s' I hq
  | ok fl =>
    cases fl with
    | ret u => exact I.after hq
    | next => exact hq.elim
    | brk => exact hq.elim
    | cont => exact hq.elim
def tCallG (n m : Nat) (sp : Sp) (gV : List V → List V → List V) (W : WX) (t tk : TA) : TE := fun σ H Q => t σ H fun vs H1 => tk σ H1 fun zs H2 => vs.length = n ∧ zs.length = m ∧ sp (gV vs zs) H2 Q (WE W σ)
/-- f(e, .., k = v, ..) -/
theorem pe_callG (Fn : FnG X.prog X.w X.K X.mg X.base k f fd ps sp) (hr : Room k X.A) (hgd : X.A.guards = some []) (tk : Takes X W) (hb : KBn X.K fd ps n ks g gV) (hg : Gl X x) (hm : X.mg x = some (.ref f)) (hk : PySem.W.keepIn X.K (.ref f) = true) {t tkw : TA}
    (ha : PA X (e :: es) t) (hkw : PK X kws tkw)
    (hall : (backToKw pos (keywordEach kws X.env)).all (·.1.isSome) = true := by rfl) (hks : (backToKw pos (keywordEach kws X.env)).filterMap (·.1) = ks := by rfl) (hdb : (x == ("__debug__" : Str)) = false := by decide)
    (he : starEach (e :: es) X.env = (false, eval e X.env) :: starEach es X.env := by rfl)
    (hpl : ((backTo pos (starEach (e :: es) X.env)).any (·.1) || (backToKw pos (keywordEach kws X.env)).any (·.1.isNone)) = false := by rfl) :
    PE X (.Call (.Name x q) (e :: es) kws pos) (tCallG n ks.length sp gV W t tkw) := by
  constructor
  intro pins s σ H Q I h
  refine wpAny_Call_Name_kw (ld_glob I hg hm ?_ hdb)
  refine PySem.W.callWith_KW (h₀ := X.base) I.ok.mod.kin hk hall (thn (ha.run pos pins s σ H _ I h) ?_) hpl he
  rintro us s1 ⟨vs, H1, I1, r, h1⟩
  refine thn (hkw.run pos pins s1 σ H1 _ I1 h1) ?_
  rintro ws s2 ⟨zs, H2, I2, rz, l1, l2, h2⟩
  refine ⟨I2.kIn, ?_⟩
  rw [hks]
  exact run_g Fn hr hgd tk hb I2 (r.length.symm.trans l1) (rz.length.symm.trans l2) r rz h2
/-- f(k = v, ..) -/
theorem pe_callG0 (Fn : FnG X.prog X.w X.K X.mg X.base k f fd ps sp) (hr : Room k X.A) (hgd : X.A.guards = some []) (tk : Takes X W) (hb : KBn X.K fd ps 0 ks g gV) (hg : Gl X x) (hm : X.mg x = some (.ref f)) (hk : PySem.W.keepIn X.K (.ref f) = true) {tkw : TA}
    (hkw : PK X kws tkw)
    (hall : (backToKw pos (keywordEach kws X.env)).all (·.1.isSome) = true := by rfl) (hks : (backToKw pos (keywordEach kws X.env)).filterMap (·.1) = ks := by rfl) (hdb : (x == ("__debug__" : Str)) = false := by decide)
    (hpl : ((backTo pos (starEach [] X.env)).any (·.1) || (backToKw pos (keywordEach kws X.env)).any (·.1.isNone)) = false := by rfl) :
    PE X (.Call (.Name x q) [] kws pos) (tCallG 0 ks.length sp gV W tNil tkw) := by
  constructor
  intro pins s σ H Q I h
  refine wpAny_Call_Name_kw (ld_glob I hg hm ?_ hdb)
  refine PySem.W.callWith_KW0 (h₀ := X.base) I.ok.mod.kin hk hall (thn (hkw.run pos pins s σ H _ I h) ?_) hpl
  rintro ws s2 ⟨zs, H2, I2, rz, l1, l2, h2⟩
  refine ⟨I2.kIn, ?_⟩
  rw [hks]
  exact run_g (us := []) (vs := []) Fn hr hgd tk hb I2 rfl (rz.length.symm.trans l2) .nil rz h2

/-! ### the call by data -/
def perm {α : Type} (z : α) (π : List Nat) (xs : List α) : List α := π.map fun i => xs.getD i z
theorem vals_getD {vs : List V} {us : List Value} (r : Vals vs us) (i : Nat) : RelV (vs.getD i .non) (us.getD i .none) := by
  rw [List.getD_eq_getElem?_getD, List.getD_eq_getElem?_getD]
  cases e : vs[i]? with
  | none => rw [Vals.none_of r e]; rfl
  | some v =>
    obtain ⟨u, h1, h2⟩ := Vals.get r e
    rw [h1]; exact h2
theorem vals_perm {vs : List V} {us : List Value} (r : Vals vs us) : ∀ π : List Nat, Vals (perm .non π vs) (perm .none π us)
  | [] => .nil
  | i :: π => .cons (vals_getD r i) (vals_perm r π)
/-- how a def without defaults binds what is handed over by places and by names -/
theorem kbn_of {K : PySem.W.Frag} {qual : Str} {st : Stmt} (Fn : Fun K x qual st f fd) (n : Nat) (ks : List Str) (π : List Nat)
    (h : ∀ (kV doc pm : Value) (an : Option Addr) (cdv ct : Value) (us ws : List Value), us.length = n → ws.length = ks.length → bindArgs (PySem.W.fnOf x qual (defArgs st) (defBody st) (defScope st) .none kV doc pm an cdv ct) ⟨us, ks.zip ws⟩ = pure (ps.zip (perm .none π (us ++ ws)))) :
    KBn K fd ps n ks (fun us ws => perm .none π (us ++ ws)) (fun vs zs => perm .non π (vs ++ zs)) := by
  obtain ⟨oc, od, kV, doc, pm, an, cdv, ct, osl, rfl, lk, hcd⟩ := Fn.ex
  exact ⟨fun s us ws X l1 l2 => .of_eq (h kV doc pm an cdv ct us ws l1 l2), fun r1 r2 => vals_perm (r1.append r2) π⟩
/-- keywords' values -/
def DKw (X : Cx) (W : WX) (p : Bool) (G : List Sh) (ks : List Keyword) (m : Mi (List D)) : Prop := ∃ t, PK X ks t ∧ Tl X W p (fun F H vs ds => Rps X.K F H vs ds ∧ vs.length = ks.length) G t m
theorem dk_nil : DKw X W true G [] aNil := ⟨_, pk_nil, fun F H A σ ρ Q wf en hp => hp.fin0 wf en ⟨.nil, rfl⟩⟩
theorem dk_cons {m : Mi D} {ms : Mi (List D)} {nm : Option Str} {kpos : Pos} (h1 : DE X W p1 G e m) (h2 : DKw X W p2 G kws ms) : DKw X W (p1 && (p2 && true)) G (⟨nm, e, kpos⟩ :: kws) (aCons m ms) := by
  obtain ⟨t1, pe1, l1⟩ := h1
  obtain ⟨t2, pe2, l2⟩ := h2
  refine ⟨_, pk_cons pe1 pe2, fun F H A σ ρ Q wf en hp => ?_⟩
  refine l1.use wf en hp fun d1 ρ1 x H1 F1 A1 s1 wf1 en1 r1 _ hp => ?_
  refine l2.use wf1 en1 hp fun d2 ρ2 y H2 F2 A2 s2 wf2 en2 r2 _ hp => ?_
  exact hp.fin0 wf2 en2 ⟨.cons (r1.mono (s2.fut wf1)) r2.1, congrArg (· + 1) r2.2⟩
theorem rps_getD {K : PySem.W.Frag} : ∀ {vs ds}, Rps K F H vs ds → ∀ i : Nat, Rp K F H (vs.getD i .non) (ds.getD i .non)
  | _, _, .nil, _ => .v _
  | _, _, .cons h r, 0 => h
  | _, _, .cons h r, i + 1 => rps_getD r i
theorem rps_perm {K : PySem.W.Frag} {vs ds} (r : Rps K F H vs ds) : ∀ π : List Nat, Rps K F H (perm .non π vs) (perm .non π ds)
  | [] => .nil
  | i :: π => .cons (rps_getD r i) (rps_perm r π)
/-- all arguments stay -/
def fzs (n : Nat) : List Sh := List.replicate n .fz
theorem env_fz {K : PySem.W.Frag} : ∀ {vs ds}, Rps K F H vs ds → EnvR K F H (fzs vs.length) (vs.map some) (ds.map some) []
  | _, _, .nil => rfl
  | _, _, .cons h r => ⟨[], [], ⟨h, rfl⟩, env_fz r, rfl⟩
theorem of_env_fz {K : PySem.W.Frag} : ∀ {vs : List V} {ds : List D} {A}, EnvR K F H (fzs vs.length) (vs.map some) (ds.map some) A → Rps K F H vs ds ∧ A = []
  | [], [], _, h => ⟨.nil, h⟩
  | [], _ :: _, _, h => by simp [EnvR, fzs] at h
  | _ :: _, [], _, h => by simp [EnvR, fzs, List.replicate_succ] at h
  | v :: vs, d :: ds, A, ⟨A1, A2, ⟨h1, e1⟩, h2, e⟩ => by
    obtain ⟨r, e2⟩ := of_env_fz (vs := vs) h2
    exact ⟨.cons h1 r, by rw [e, e1, e2]; rfl⟩
/-- a call whose arguments all stay: nothing of the caller's is changed -/
def eCall (m : Mf) (π : List Nat) (ma mk : Mi (List D)) : Mi D := bnd ma fun xs => bnd mk fun ys => fun ρ => match m (perm .non π (xs ++ ys)) with
  | .ok d _ => .ok d ρ
  | .exc x _ => .exc x ρ
  | .bad => .bad
theorem wf0 (h : Wf F H A) : Wf F H [] := ⟨h.f, fun _ z => (nomatch z), List.nodup_nil, fun _ z => (nomatch z)⟩
theorem call_fz {m : Mf} {vs ds} {Q : VK} (wf : Wf F H A) (en : EnvR X.K F H G σ ρ A) (r : Rps X.K F H vs ds) (hl : vs.length = sh.length) (hsh : sh = fzs sh.length)
    (hp : Pg X W p (Rp X.K) G σ F H A ρ (match m ds with | .ok d _ => .ok d ρ | .exc x _ => .exc x ρ | .bad => .bad) Q) : spD X.K X.mg sh .fz m vs H Q (WE W σ) := by
  have e0 := env_fz r
  rw [hl, ← hsh] at e0
  refine ⟨hl, F, [], ds, wf0 wf, e0, ?_⟩
  have step : ∀ {F' H'}, Stp F H [] F' H' [] → Wf F' H' [] → Pst F H F' H' := fun st w' =>
    ⟨st.f, fun b o e => st.keep b o e (by simp), fun a ha => by
      rcases st.fn a ha with z | z | z
      · exact .inl z
      · cases z
      · exact .inr ⟨z, w'.f a ha⟩⟩
  cases e : m ds with
  | ok d ds' =>
    rw [e] at hp
    intro v H' F' A' B st w' en' o
    have eB : B = [] := o.2
    rw [hsh, ← hl] at en'
    by_cases hds : ds'.length = vs.length
    · have eA := (of_env_fz en').2
      subst eB; subst eA
      exact hp.fin wf en (step st w') o.1
    · have := en'.len
      simp at this
      omega
  | exc x ds' =>
    rw [e] at hp
    intro cls dd H' F' A' st w' en' xr
    rw [hsh, ← hl] at en'
    have eA := (of_env_fz en').2
    subst eA
    have ps := step st w'
    exact hp cls dd H' F' A ps.stp (ps.wf wf) (en.mono (ps.stay wf.a)) xr fun _ => ⟨ps, rfl, rfl⟩
  | bad => rw [e] at hp; exact hp
theorem perm_len {α : Type} (z : α) (π : List Nat) (xs : List α) : (perm z π xs).length = π.length := by simp [perm]
/-- f(e, .., k = v, ..), all of them staying -/
theorem de_call {m : Mf} {π : List Nat} {ma mk : Mi (List D)} (Fn : FnG X.prog X.w X.K X.mg X.base k f fd ps (spD X.K X.mg sh .fz m)) (hr : Room k X.A) (hgd : X.A.guards = some []) (tk : Takes X W)
    (hb : KBn X.K fd ps n ks (fun us ws => perm .none π (us ++ ws)) (fun vs zs => perm .non π (vs ++ zs))) (hg : Gl X x) (hm : X.mg x = some (.ref f)) (hk : PySem.W.keepIn X.K (.ref f) = true)
    (hsh : sh = fzs π.length) (ha : DA X W p1 G (e :: es) ma) (hkw : DKw X W p2 G kws mk)
    (hn : (e :: es).length = n) (hn2 : kws.length = ks.length)
    (hall : (backToKw pos (keywordEach kws X.env)).all (·.1.isSome) = true := by rfl) (hks : (backToKw pos (keywordEach kws X.env)).filterMap (·.1) = ks := by rfl) (hdb : (x == ("__debug__" : Str)) = false := by decide)
    (he : starEach (e :: es) X.env = (false, eval e X.env) :: starEach es X.env := by rfl)
    (hpl : ((backTo pos (starEach (e :: es) X.env)).any (·.1) || (backToKw pos (keywordEach kws X.env)).any (·.1.isNone)) = false := by rfl) :
    DE X W (p1 && (p2 && true)) G (.Call (.Name x q) (e :: es) kws pos) (eCall m π ma mk) := by
  obtain ⟨t1, pe1, l1⟩ := ha
  obtain ⟨t2, pe2, l2⟩ := hkw
  refine ⟨_, pe_callG Fn hr hgd tk hb hg hm hk pe1 pe2 hall hks hdb he hpl, fun F H A σ ρ Q wf en hp => ?_⟩
  unfold eCall at hp
  refine l1 _ _ _ _ _ _ wf en ?_
  unfold bnd at hp
  cases e1 : ma ρ with
  | bad => rw [e1] at hp; exact hp
  | exc x ρ1 =>
    rw [e1] at hp
    exact fun cls dd H' F' A' st wf' en' r pp => hp cls dd H' F' A' st wf' en' r fun q => pp (Bool.and_eq_true_iff.mp q).1
  | ok xs ρ1 =>
    rw [e1] at hp
    intro vs H1 F1 A1 s1 wf1 en1 r1 pp1
    have hp := Pg.after s1 pp1 hp
    simp only [Out.bind_ok] at hp
    refine l2 _ _ _ _ _ _ wf1 en1 ?_
    cases e2 : mk ρ1 with
    | bad => rw [e2] at hp; exact hp
    | exc x ρ2 =>
      rw [e2] at hp
      exact fun cls dd H' F' A' st wf' en' r pp => hp cls dd H' F' A' st wf' en' r fun q => pp (Bool.and_eq_true_iff.mp q).1
    | ok ys ρ2 =>
      rw [e2] at hp
      intro zs H2 F2 A2 s2 wf2 en2 r2 pp2
      have hp := Pg.after s2 pp2 hp
      simp only [Out.bind_ok] at hp
      refine ⟨r1.2.trans hn, r2.2.trans hn2, ?_⟩
      have r3 := rps_perm ((r1.1.mono (s2.fut wf1)).app r2.1) π
      exact call_fz wf2 en2 r3 (by rw [perm_len, hsh]; simp [fzs]) (by rw [hsh]; simp [fzs]) hp
/-- f(k = v, ..) -/
theorem de_call0 {m : Mf} {π : List Nat} {mk : Mi (List D)} (Fn : FnG X.prog X.w X.K X.mg X.base k f fd ps (spD X.K X.mg sh .fz m)) (hr : Room k X.A) (hgd : X.A.guards = some []) (tk : Takes X W)
    (hb : KBn X.K fd ps 0 ks (fun us ws => perm .none π (us ++ ws)) (fun vs zs => perm .non π (vs ++ zs))) (hg : Gl X x) (hm : X.mg x = some (.ref f)) (hk : PySem.W.keepIn X.K (.ref f) = true)
    (hsh : sh = fzs π.length) (hkw : DKw X W p2 G kws mk) (hn2 : kws.length = ks.length)
    (hall : (backToKw pos (keywordEach kws X.env)).all (·.1.isSome) = true := by rfl) (hks : (backToKw pos (keywordEach kws X.env)).filterMap (·.1) = ks := by rfl) (hdb : (x == ("__debug__" : Str)) = false := by decide)
    (hpl : ((backTo pos (starEach [] X.env)).any (·.1) || (backToKw pos (keywordEach kws X.env)).any (·.1.isNone)) = false := by rfl) :
    DE X W (true && (p2 && true)) G (.Call (.Name x q) [] kws pos) (eCall m π aNil mk) := by
  obtain ⟨t2, pe2, l2⟩ := hkw
  refine ⟨_, pe_callG0 Fn hr hgd tk hb hg hm hk pe2 hall hks hdb hpl, fun F H A σ ρ Q wf en hp => ?_⟩
  refine l2 _ _ _ _ _ _ wf en ?_
  have hp : Pg X W (p2 && true) (Rp X.K) G σ F H A ρ (bnd mk (fun ys => fun ρ => match m (perm .non π ([] ++ ys)) with | .ok d _ => .ok d ρ | .exc x _ => .exc x ρ | .bad => .bad) ρ) Q := hp
  unfold bnd at hp
  cases e2 : mk ρ with
  | bad => rw [e2] at hp; exact hp
  | exc x ρ2 =>
    rw [e2] at hp
    exact fun cls dd H' F' A' st wf' en' r pp => hp cls dd H' F' A' st wf' en' r fun q => pp (Bool.and_eq_true_iff.mp q).1
  | ok ys ρ2 =>
    rw [e2] at hp
    intro zs H2 F2 A2 s2 wf2 en2 r2 pp2
    have hp := Pg.after s2 pp2 hp
    refine ⟨rfl, r2.2.trans hn2, ?_⟩
    have r3 := rps_perm (vs := [] ++ zs) (ds := [] ++ ys) r2.1 π
    exact call_fz wf2 en2 r3 (by rw [perm_len, hsh]; simp [fzs]) (by rw [hsh]; simp [fzs]) hp
/-- a call that is handed owned things: they are changed -/
def callOut (m : Mf) (xs : List Ag) : Mi D := fun ρ => match fetch xs ρ with
  | none => .bad
  | some r => match m r.1 with
    | .ok d ds => (match putBack xs ds r.2 with | some ρ' => .ok d ρ' | none => .bad)
    | .exc x ds => (match putBack xs ds r.2 with | some ρ' => .exc x ρ' | none => .bad)
    | .bad => .bad
def eCallG (m : Mf) (ms : Mi (List Ag)) : Mi D := bnd ms fun xs => callOut m xs
theorem Wf.app {C : List Addr} (h : Wf F H C) (n : A.Nodup) (d : ∀ a ∈ A, a ∉ C) (f : ∀ a ∈ A, ¬ F a) (t : ∀ a ∈ A, H a ≠ none) : Wf F H (C ++ A) :=
  ⟨h.f, fun a ha => (List.mem_append.mp ha).elim (h.a a) (t a), List.nodup_append.mpr ⟨h.nd, n, fun a ha b hb e => d b hb (e ▸ ha)⟩, fun a ha => (List.mem_append.mp ha).elim (h.ap a) (f a)⟩
theorem call_own {m : Mf} {vs : List V} {xs : List Ag} (wf : Wf F H A) (en : EnvR X.K F H G σ ρ A) (r : AgR X.K F H G σ sh vs xs) {Q : VK}
    (hp : PgO X W false sr G σ F H A ρ (callOut m xs ρ) Q) : spD X.K X.mg sh sr m vs H Q (WE W σ) := by
  unfold callOut at hp
  cases ef : fetch xs ρ with
  | none => rw [ef] at hp; exact hp.elim
  | some z =>
    obtain ⟨ds, ρ1⟩ := z
    rw [ef] at hp
    obtain ⟨A1, A2, h1, h2, h3⟩ := gather r en ef
    have wfp := wf.perm h3
    have wf1 : Wf F H A1 := ⟨wfp.f, fun a ha => wfp.a a (List.mem_append_left _ ha), (List.nodup_append.mp wfp.nd).1, fun a ha => wfp.ap a (List.mem_append_left _ ha)⟩
    have dis := (List.nodup_append.mp wfp.nd).2.2
    have nd2 := (List.nodup_append.mp wfp.nd).2.1
    have i1 : ∀ a ∈ A1, a ∈ A := fun a ha => h3.mem_iff.mpr (List.mem_append_left _ ha)
    have i2 : ∀ a ∈ A2, a ∈ A := fun a ha => h3.mem_iff.mpr (List.mem_append_right _ ha)
    have rest : ∀ {F' H' C}, Stp F H A1 F' H' C → Wf F' H' C → EnvR X.K F' H' G σ ρ1 A2 ∧ Wf F' H' (C ++ A2) ∧ ∀ A3 : List Addr, (∀ b ∈ A3, b ∈ C ++ A2) → Stp F H A F' H' A3 := fun {F' H' C} st w' => by
      have n1 : ∀ a ∈ A2, H a ≠ none := fun a ha => wfp.a a (List.mem_append_right _ ha)
      have kp : ∀ a ∈ A2, H' a = H a := fun a ha => by
        cases q : H a with
        | none => exact absurd q (n1 a ha)
        | some o => exact st.keep a o q fun z => dis a z a ha rfl
      have own1 : ∀ b ∈ C, b ∈ A ∨ H b = none := fun b hb => (st.own b hb).elim (fun q => .inl (i1 b q)) .inr
      refine ⟨h2.mono ⟨st.fut wf1, kp⟩, w'.app nd2 (fun a ha z => ?_) (fun a ha z => ?_) fun a ha z => n1 a ha (by rw [← kp a ha]; exact z), fun A3 h => ⟨st.f, fun b o e n => st.keep b o e fun z => n (i1 b z), fun b hb => ?_, fun b hb => ?_⟩⟩
      · rcases st.own a z with q | q
        · exact dis a q a ha rfl
        · exact n1 a ha q
      · rcases st.fn a z with q | q | q
        · exact wfp.ap a (List.mem_append_right _ ha) q
        · exact dis a q a ha rfl
        · exact n1 a ha q
      · rcases List.mem_append.mp (h b hb) with q | q
        · exact own1 b q
        · exact .inl (i2 b q)
      · rcases st.fn b hb with q | q | q
        · exact .inl q
        · exact .inr (.inl (i1 b q))
        · exact .inr (.inr q)
    refine ⟨r.len, F, A1, ds, wf1, h1, ?_⟩
    cases e : m ds with
    | bad => simp only [e] at hp; exact hp
    | ok d ds' =>
      simp only [e] at hp
      cases ep : putBack xs ds' ρ1 with
      | none => rw [ep] at hp; exact hp.elim
      | some ρ2 =>
        rw [ep] at hp
        intro v H' F' A' B st w' en' o
        obtain ⟨en2, wf3, st3⟩ := rest st w'
        obtain ⟨A3, en3, pm⟩ := scatter (r.mono (st.fut wf1)) en2 en' ep
        have pm2 : (B ++ A3).Perm ((B ++ A') ++ A2) := by
          rw [List.append_assoc]
          exact List.Perm.append_left B pm
        exact hp v H' F' A3 B (st3 _ fun b hb => pm2.mem_iff.mp hb) (wf3.perm pm2.symm) en3 o fun z => nomatch z
    | exc x ds' =>
      simp only [e] at hp
      cases ep : putBack xs ds' ρ1 with
      | none => rw [ep] at hp; exact hp.elim
      | some ρ2 =>
        rw [ep] at hp
        intro cls dd H' F' A' st w' en' xr
        obtain ⟨en2, wf3, st3⟩ := rest st w'
        obtain ⟨A3, en3, pm⟩ := scatter (r.mono (st.fut wf1)) en2 en' ep
        exact hp cls dd H' F' A3 (st3 _ fun b hb => pm.mem_iff.mp hb) (wf3.perm pm.symm) en3 xr fun z => nomatch z
theorem PgO.of_fz {o : Out D} {Q : VK} (h : Pg X W false (Rp X.K) G σ F H A ρ o Q) : PgO X W false .fz G σ F H A ρ o Q := by
  cases o with
  | ok d ρ' =>
    intro v H' F' A' B st wf en o _
    have e : B = [] := o.2
    subst e
    exact h v H' F' A' st wf en o.1 fun z => nomatch z
  | exc x ρ' => exact h
  | bad => exact h
theorem kb_pos {K : PySem.W.Frag} {ds : List Value} (hb : Binds K fd ps []) : KBn K fd ps ps.length [] (fun us ws => us) (fun vs zs => vs) :=
  ⟨fun s us ws X l1 l2 => by
    have h := hb s us X (by rw [List.append_nil]; exact l1)
    rw [List.append_nil] at h
    exact h, fun r1 r2 => r1⟩
/-- f(a, .., b), some of them owned -/
theorem de_callO {m : Mf} {ms : Mi (List Ag)} (Fn : FnG X.prog X.w X.K X.mg X.base k f fd ps (spD X.K X.mg sh .fz m)) (hr : Room k X.A) (hgd : X.A.guards = some []) (tk : Takes X W)
    (hb : KBn X.K fd ps n [] (fun us ws => us) (fun vs zs => vs)) (hg : Gl X x) (hm : X.mg x = some (.ref f)) (hk : PySem.W.keepIn X.K (.ref f) = true)
    (hl : sh.length = n) (ha : DG X W p1 G sh (e :: es) ms) (hdb : (x == ("__debug__" : Str)) = false := by decide)
    (he : starEach (e :: es) X.env = (false, eval e X.env) :: starEach es X.env := by rfl)
    (hpl : ((backTo pos (starEach (e :: es) X.env)).any (·.1) || (backToKw pos (keywordEach [] X.env)).any (·.1.isNone)) = false := by rfl) :
    DE X W false G (.Call (.Name x q) (e :: es) [] pos) (eCallG m ms) := by
  obtain ⟨t1, pe1, l1⟩ := ha
  refine ⟨_, pe_callG Fn hr hgd tk hb hg hm hk pe1 pk_nil rfl rfl hdb he hpl, fun F H A σ ρ Q wf en hp => ?_⟩
  refine l1 _ _ _ _ _ _ wf en ?_
  unfold eCallG bnd at hp
  cases e1 : ms ρ with
  | bad => rw [e1] at hp; exact hp
  | exc x ρ1 =>
    rw [e1] at hp
    exact fun cls dd H' F' A' st wf' en' r pp => hp cls dd H' F' A' st wf' en' r fun q => nomatch q
  | ok xs ρ1 =>
    rw [e1] at hp
    intro vs H1 F1 A1 s1 wf1 en1 r1 pp1
    have hp : Pg X W false (Rp X.K) G σ F1 H1 A1 ρ1 (callOut m xs ρ1) Q := Pg.after (p1 := false) s1 (fun z => nomatch z) (Pg.mono_p hp fun z => nomatch z)
    exact ⟨r1.len.trans hl, rfl, call_own wf1 en1 r1 (PgO.of_fz hp)⟩
/-- .. what is handed back is the caller's alone -/
theorem do_callO {m : Mf} {ms : Mi (List Ag)} (Fn : FnG X.prog X.w X.K X.mg X.base k f fd ps (spD X.K X.mg sh sr m)) (hr : Room k X.A) (hgd : X.A.guards = some []) (tk : Takes X W)
    (hb : KBn X.K fd ps n [] (fun us ws => us) (fun vs zs => vs)) (hg : Gl X x) (hm : X.mg x = some (.ref f)) (hk : PySem.W.keepIn X.K (.ref f) = true)
    (hl : sh.length = n) (ha : DG X W p1 G sh (e :: es) ms) (hdb : (x == ("__debug__" : Str)) = false := by decide)
    (he : starEach (e :: es) X.env = (false, eval e X.env) :: starEach es X.env := by rfl)
    (hpl : ((backTo pos (starEach (e :: es) X.env)).any (·.1) || (backToKw pos (keywordEach [] X.env)).any (·.1.isNone)) = false := by rfl) :
    DO X W false sr G (.Call (.Name x q) (e :: es) [] pos) (eCallG m ms) := by
  obtain ⟨t1, pe1, l1⟩ := ha
  refine ⟨_, pe_callG Fn hr hgd tk hb hg hm hk pe1 pk_nil rfl rfl hdb he hpl, fun F H A σ ρ Q wf en hp => ?_⟩
  refine l1 _ _ _ _ _ _ wf en ?_
  unfold eCallG bnd at hp
  cases e1 : ms ρ with
  | bad => rw [e1] at hp; exact hp
  | exc x ρ1 =>
    rw [e1] at hp
    exact fun cls dd H' F' A' st wf' en' r pp => hp cls dd H' F' A' st wf' en' r fun q => nomatch q
  | ok xs ρ1 =>
    rw [e1] at hp
    intro vs H1 F1 A1 s1 wf1 en1 r1 pp1
    have hp : PgO X W false sr G σ F1 H1 A1 ρ1 (callOut m xs ρ1) Q := PgO.after (p1 := false) (p2 := false) s1 (fun z => nomatch z) hp
    exact ⟨r1.len.trans hl, rfl, call_own wf1 en1 r1 hp⟩
end
end DM
/-! DmH: statements. -/
namespace DM
open PySem PySem.Spec PyProof.Rows L2

inductive Ctl where
  | nx | bk | ct
  | rt (d : D)
abbrev Ms := Mi Ctl

/-- G, forgetting some -/
inductive Wk : List Sh → List Sh → Prop
  | nil : Wk [] []
  | s {a G G'} : Wk G G' → Wk (a :: G) (a :: G')
  | a {a G G'} : Wk G G' → Wk (a :: G) (.any :: G')
theorem Wk.refl : ∀ G, Wk G G
  | [] => .nil
  | _ :: G => .s (Wk.refl G)
theorem Wk.all : ∀ G : List Sh, Wk G (List.replicate G.length .any)
  | [] => .nil
  | _ :: G => .a (Wk.all G)
section
variable {K : PySem.W.Frag} {F : FS} {H : Hp}
theorem EnvR.weak : ∀ {G G' : List Sh} {σ : L2.St} {ρ : Env} {A}, Wk G G' → EnvR K F H G σ ρ A → ∃ A', EnvR K F H G' σ ρ A' ∧ A'.Sublist A
  | [], [], σ, ρ, A, .nil, h => ⟨A, h, List.Sublist.refl _⟩
  | g :: G, g' :: G', σ, ρ, A, w, h => by
    have tl : Wk G G' ∧ (g' = g ∨ g' = .any) := by
      cases w with
      | s w => exact ⟨w, .inl rfl⟩
      | a w => exact ⟨w, .inr rfl⟩
    cases σ with
    | nil => simp [EnvR] at h
    | cons x σ =>
      cases ρ with
      | nil => simp [EnvR] at h
      | cons y ρ =>
        cases y with
        | none =>
          obtain ⟨A', a, b⟩ := EnvR.weak (A := A) tl.1 (show EnvR K F H G σ ρ A from by simpa only [EnvR] using h)
          exact ⟨A', by simpa only [EnvR] using a, b⟩
        | some d =>
          cases x with
          | none => simp [EnvR] at h
          | some v =>
            obtain ⟨A1, A2, h1, h2, e⟩ := h
            obtain ⟨A', a, b⟩ := EnvR.weak tl.1 h2
            rcases tl.2 with q | q
            · rw [q, e]
              exact ⟨A1 ++ A', ⟨A1, A', h1, a, rfl⟩, List.Sublist.append_left b A1⟩
            · rw [q, e]
              exact ⟨A', ⟨[], A', rfl, a, rfl⟩, b.trans (List.sublist_append_right A1 A2)⟩
theorem Wf.sub {A A' : List Addr} (h : Wf F H A) (s : A'.Sublist A) : Wf F H A' := ⟨h.f, fun a ha => h.a a (s.subset ha), h.nd.sublist s, fun a ha => h.ap a (s.subset ha)⟩
theorem Stp.sub {F' H' A A' A2} (x : Stp F H A F' H' A') (s : A2.Sublist A') : Stp F H A F' H' A2 := ⟨x.f, x.keep, fun b hb => x.own b (s.subset hb), x.fn⟩
theorem Wk.trans : ∀ {G1 G2 G3 : List Sh}, Wk G1 G2 → Wk G2 G3 → Wk G1 G3
  | _, _, _, .nil, .nil => .nil
  | _, _, _, .s x, .s y => .s (Wk.trans x y)
  | _, _, _, .s x, .a y => .a (Wk.trans x y)
  | _, _, _, .a x, .s y => .a (Wk.trans x y)
  | _, _, _, .a x, .a y => .a (Wk.trans x y)
end

/-- the ends of a block: the shape of what is returned; the slots at a return, a break, a continue, where something is raised -/
structure SC where
  sr : Sh
  Gr : List Sh
  Gb : List Sh
  Gc : List Sh
  Gx : List Sh

def PgS (X : Cx) (W : WX) (C : SC) (G' : List Sh) (F : FS) (H : Hp) (A : List Addr) (o : Out Ctl) (E : Ends) : Prop :=
  match o with
  | .ok .nx ρ' => ∀ σ' H' F' A', Stp F H A F' H' A' → Wf F' H' A' → EnvR X.K F' H' G' σ' ρ' A' → E.nx σ' H'
  | .ok .bk ρ' => ∀ σ' H' F' A', Stp F H A F' H' A' → Wf F' H' A' → EnvR X.K F' H' C.Gb σ' ρ' A' → E.bk σ' H'
  | .ok .ct ρ' => ∀ σ' H' F' A', Stp F H A F' H' A' → Wf F' H' A' → EnvR X.K F' H' C.Gc σ' ρ' A' → E.ct σ' H'
  | .ok (.rt d) ρ' => ∀ v σ' H' F' A' B, Stp F H A F' H' (B ++ A') → Wf F' H' (B ++ A') → EnvR X.K F' H' C.Gr σ' ρ' A' → Ow X.K F' H' C.sr v d B → E.rt v H'
  | .exc x ρ' => ∀ cls dd σ' H' F' A', Stp F H A F' H' A' → Wf F' H' A' → EnvR X.K F' H' C.Gx σ' ρ' A' → XR X.K X.mg F' H' x cls dd → W cls dd σ' H'
  | .bad => False
def TlS (X : Cx) (W : WX) (C : SC) (G : List Sh) (t : TS) (m : Ms) (G' : List Sh) : Prop :=
  ∀ F H A σ ρ E, Wf F H A → EnvR X.K F H G σ ρ A → PgS X W C G' F H A (m ρ) E → t E σ H
def DS (X : Cx) (W : WX) (C : SC) (G : List Sh) (st : Stmt) (m : Ms) (G' : List Sh) : Prop := ∃ t, PS X st t ∧ TlS X W C G t m G'
def DSs (X : Cx) (W : WX) (C : SC) (G : List Sh) (st : List Stmt) (m : Ms) (G' : List Sh) : Prop := ∃ t, PSs X st t ∧ TlS X W C G t m G'

def sNil : Ms := ret .nx
def sSeq (m n : Ms) : Ms := fun ρ => match m ρ with
  | .ok .nx ρ1 => n ρ1
  | o => o

section
variable {X : Cx} {W : WX} {C : SC} {p p1 p2 p3 : Bool} {G G1 G2 G' : List Sh} {e a b c : Expr} {es : List Expr} {pos : Pos} {F F1 : FS} {H H1 : Hp} {A A1 : List Addr} {σ : L2.St} {ρ ρ1 : Env} {s : Sh} {st : Stmt} {sts rest : List Stmt}
theorem PgS.after {o : Out Ctl} {E : Ends} (s : Stp F H A F1 H1 A1) (h : PgS X W C G' F H A o E) : PgS X W C G' F1 H1 A1 o E := by
  cases o with
  | ok c ρ' =>
    cases c with
    | nx => exact fun σ' H' F' A' st => h σ' H' F' A' (s.trans st)
    | bk => exact fun σ' H' F' A' st => h σ' H' F' A' (s.trans st)
    | ct => exact fun σ' H' F' A' st => h σ' H' F' A' (s.trans st)
    | rt d => exact fun v σ' H' F' A' B st => h v σ' H' F' A' B (s.trans st)
  | exc x ρ' => exact fun cls dd σ' H' F' A' st => h cls dd σ' H' F' A' (s.trans st)
  | bad => exact h
theorem dss_nil : DSs X W C G [] sNil G := ⟨_, pss_nil, fun F H A σ ρ E wf en hp => hp σ H F A .refl wf en⟩
theorem seq_run {t u : TS} {m n : Ms} (h1 : TlS X W C G t m G1) (h2 : TlS X W C G1 u n G') : TlS X W C G (tSeq t u) (sSeq m n) G' := by
  intro F H A σ ρ E wf en hp
  refine h1 F H A σ ρ _ wf en ?_
  unfold sSeq at hp
  cases e : m ρ with
  | ok c ρ' =>
    rw [e] at hp
    cases c with
    | nx => exact fun σ' H' F' A' st wf' en' => h2 F' H' A' σ' ρ' E wf' en' (PgS.after st hp)
    | bk => exact hp
    | ct => exact hp
    | rt d => exact hp
  | exc x ρ' => rw [e] at hp; exact hp
  | bad => rw [e] at hp; exact hp
theorem dss_cons {m n : Ms} (h1 : DS X W C G st m G1) (h2 : DSs X W C G1 sts n G') : DSs X W C G (st :: sts) (sSeq m n) G' := by
  obtain ⟨t1, pe1, l1⟩ := h1
  obtain ⟨t2, pe2, l2⟩ := h2
  exact ⟨_, pss_cons pe1 pe2, seq_run l1 l2⟩
theorem dss_one {m : Ms} (h1 : DS X W C G st m G') : DSs X W C G [st] m G' := by
  obtain ⟨t1, pe1, l1⟩ := h1
  exact ⟨_, pss_one pe1, l1⟩
/-- less known behind it -/
theorem TlS.wk {t : TS} {m : Ms} (h : TlS X W C G t m G1) (w : Wk G1 G2) : TlS X W C G t m G2 := by
  intro F H A σ ρ E wf en hp
  refine h F H A σ ρ E wf en ?_
  cases e : m ρ with
  | ok c ρ' =>
    rw [e] at hp
    cases c with
    | nx =>
      intro σ' H' F' A' st wf' en'
      obtain ⟨A2, en2, sb⟩ := en'.weak w
      exact hp σ' H' F' A2 (st.sub sb) (wf'.sub sb) en2
    | bk => exact hp
    | ct => exact hp
    | rt d => exact hp
  | exc x ρ' => rw [e] at hp; exact hp
  | bad => rw [e] at hp; exact hp
theorem TlS.wk0 {t : TS} {m : Ms} (h : TlS X W C G1 t m G') (w : Wk G G1) : TlS X W C G t m G' := by
  intro F H A σ ρ E wf en hp
  obtain ⟨A2, en2, sb⟩ := en.weak w
  exact h F H A2 σ ρ E (wf.sub sb) en2 (PgS.after (Stp.sub .refl sb) hp)
theorem DS.wk {m : Ms} (h : DS X W C G st m G1) (w : Wk G1 G2) : DS X W C G st m G2 := by
  obtain ⟨t, pe, l⟩ := h
  exact ⟨t, pe, l.wk w⟩
theorem DSs.wk {m : Ms} (h : DSs X W C G sts m G1) (w : Wk G1 G2) : DSs X W C G sts m G2 := by
  obtain ⟨t, pe, l⟩ := h
  exact ⟨t, pe, l.wk w⟩
theorem DSs.wk0 {m : Ms} (h : DSs X W C G1 sts m G') (w : Wk G G1) : DSs X W C G sts m G' := by
  obtain ⟨t, pe, l⟩ := h
  exact ⟨t, pe, l.wk0 w⟩
/-- an owned slot stays as it is from now on -/
theorem EnvR.freeze1 : ∀ {G : List Sh} {σ : L2.St} {ρ : Env} {A} {i : Nat} {s : Sh}, EnvR X.K F H G σ ρ A → G[i]? = some s → s.nf = true → A.Nodup → ∃ B A', EnvR X.K (fun a => F a ∨ a ∈ B) H (G.set i .fz) σ ρ A' ∧ A.Perm (B ++ A')
  | [], [], [], _, i, s, h, e, _, _ => by simp at e
  | g :: G, x :: σ, none :: ρ, A, 0, s, h, e, _, _ =>
    ⟨[], A, by simpa only [List.set, EnvR] using (show EnvR X.K F H G σ ρ A from by simpa only [EnvR] using h).mono (stay_f fun a h => .inl h), List.Perm.refl _⟩
  | g :: G, x :: σ, none :: ρ, A, i + 1, s, h, e, n, nd => by
    obtain ⟨B, A', h1, h2⟩ := EnvR.freeze1 (i := i) (A := A) (show EnvR X.K F H G σ ρ A from by simpa only [EnvR] using h) (by simpa using e) n nd
    exact ⟨B, A', by simpa only [List.set, EnvR] using h1, h2⟩
  | g :: G, some v :: σ, some d :: ρ, A, 0, s, ⟨A1, A2, h1, h2, eA⟩, e, n, nd => by
    simp at e; subst e
    refine ⟨A1, A2, ⟨[], A2, ⟨h1.freeze n (fun a h => .inl h) fun b hb => .inr hb, rfl⟩, h2.mono (stay_f fun a h => .inl h), rfl⟩, by rw [eA]⟩
  | g :: G, some v :: σ, some d :: ρ, A, i + 1, s, ⟨A1, A2, h1, h2, eA⟩, e, n, nd => by
    rw [eA] at nd
    obtain ⟨B, A', g1, g2⟩ := EnvR.freeze1 (i := i) h2 (by simpa using e) n (List.nodup_append.mp nd).2.1
    refine ⟨B, A1 ++ A', ⟨A1, A', h1.mono (stay_f fun a h => .inl h), g1, rfl⟩, ?_⟩
    rw [eA]
    refine (List.Perm.append_left A1 g2).trans ?_
    rw [← List.append_assoc, ← List.append_assoc]
    exact List.Perm.append_right A' List.perm_append_comm
  | [], [], _ :: _, _, _, _, h, _, _, _ => by simp [EnvR] at h
  | [], _ :: _, _, _, _, _, h, _, _, _ => by simp [EnvR] at h
  | _ :: _, [], _, _, _, _, h, _, _, _ => by simp [EnvR] at h
  | _ :: _, _ :: _, [], _, _, _, h, _, _, _ => by simp [EnvR] at h
  | _ :: _, none :: _, some _ :: _, _, _, _, h, _, _, _ => by simp [EnvR] at h
theorem TlS.freeze {t : TS} {m : Ms} (i : Nat) (hG : G[i]? = some s) (n : s.nf = true) (h : TlS X W C (G.set i .fz) t m G') : TlS X W C G t m G' := by
  intro F H A σ ρ E wf en hp
  obtain ⟨B, A', en', pm⟩ := en.freeze1 hG n wf.nd
  have wp := wf.perm pm
  have dis := (List.nodup_append.mp wp.nd).2.2
  have iB : ∀ b ∈ B, b ∈ A := fun b hb => pm.mem_iff.mpr (List.mem_append_left _ hb)
  have iA : ∀ b ∈ A', b ∈ A := fun b hb => pm.mem_iff.mpr (List.mem_append_right _ hb)
  have st : Stp F H A (fun a => F a ∨ a ∈ B) H A' := ⟨fun a h => .inl h, fun b o e _ => e, fun b hb => .inl (iA b hb), fun b hb => hb.elim .inl fun z => .inr (.inl (iB b z))⟩
  refine h _ H A' σ ρ E ⟨fun a ha => ha.elim (wf.f a) fun z => wf.a a (iB a z), fun a ha => wf.a a (iA a ha), (List.nodup_append.mp wp.nd).2.1, fun a ha z => z.elim (wf.ap a (iA a ha)) fun z => dis a z a ha rfl⟩ en' (PgS.after st hp)
theorem DSs.freeze {m : Ms} (i : Nat) (hG : G[i]? = some s) (n : s.nf = true) (h : DSs X W C (G.set i .fz) sts m G') : DSs X W C G sts m G' := by
  obtain ⟨t, pe, l⟩ := h
  exact ⟨t, pe, l.freeze i hG n⟩

/-! ### simple statements -/
/-- what an expression does, then a statement's end -/
theorem Tl.useS {α β : Type} {R : Rel β α} {t : L2.St → Hp → (β → Hp → Prop) → Prop} {m : Mi α} {k : α → Ms} {E : Ends} {Q1 : β → Hp → Prop} (h1 : Tl X W p1 R G t m) (wf : Wf F H A) (en : EnvR X.K F H G σ ρ A) (wx : Wk G C.Gx)
    (h : PgS X W C G' F H A (bnd m k ρ) E)
    (hk : ∀ a ρ1 b H1 F1 A1, Wf F1 H1 A1 → EnvR X.K F1 H1 G σ ρ1 A1 → R F1 H1 b a → PgS X W C G' F1 H1 A1 (k a ρ1) E → Q1 b H1) : t σ H Q1 := by
  refine h1 F H A σ ρ Q1 wf en ?_
  unfold bnd at h
  cases e : m ρ with
  | ok a ρ' =>
    rw [e] at h
    exact fun b H' F' A' st wf' en' r pp => hk a ρ' b H' F' A' wf' en' r (PgS.after st h)
  | exc x ρ' =>
    rw [e] at h
    intro cls dd H' F' A' st wf' en' r pp
    obtain ⟨A2, en2, sb⟩ := en'.weak wx
    exact h cls dd σ H' F' A2 (st.sub sb) (wf'.sub sb) en2 r
  | bad => rw [e] at h; exact h
theorem TlO.useS {t : TE} {m : Mi D} {k : D → Ms} {E : Ends} {Q1 : VK} (h1 : TlO X W p1 s G t m) (wf : Wf F H A) (en : EnvR X.K F H G σ ρ A) (wx : Wk G C.Gx)
    (h : PgS X W C G' F H A (bnd m k ρ) E)
    (hk : ∀ d ρ1 v H1 F1 A1 B, Wf F1 H1 (B ++ A1) → EnvR X.K F1 H1 G σ ρ1 A1 → Ow X.K F1 H1 s v d B → PgS X W C G' F1 H1 (B ++ A1) (k d ρ1) E → Q1 v H1) : t σ H Q1 := by
  refine h1 F H A σ ρ Q1 wf en ?_
  unfold bnd at h
  cases e : m ρ with
  | ok a ρ' =>
    rw [e] at h
    exact fun v H' F' A' B st wf' en' r pp => hk a ρ' v H' F' A' B wf' en' r (PgS.after st h)
  | exc x ρ' =>
    rw [e] at h
    intro cls dd H' F' A' st wf' en' r pp
    obtain ⟨A2, en2, sb⟩ := en'.weak wx
    exact h cls dd σ H' F' A2 (st.sub sb) (wf'.sub sb) en2 r
  | bad => rw [e] at h; exact h
def setI (i : Nat) (d : D) : Ms := fun ρ => if i < ρ.length then .ok .nx (ρ.set i (some d)) else .bad
def sSet (i : Nat) (m : Mi D) : Ms := bnd m (setI i)
theorem set_fin {i : Nat} {d : D} {v : V} {E : Ends} {B : List Addr} (wf : Wf F H (B ++ A)) (en : EnvR X.K F H G σ ρ A) (o : Ow X.K F H s v d B) (hp : PgS X W C (G.set i s) F H (B ++ A) (setI i d ρ) E) : E.nx (σ.set i (some v)) H := by
  unfold setI at hp
  split at hp
  · rename_i hi
    have l := en.len
    obtain ⟨A', en', sub, nd, _⟩ := en.set (i := i) (s := s) (by omega) o
    obtain ⟨n1, n2, n3⟩ := List.nodup_append.mp wf.nd
    have all : ∀ b ∈ A', b ∈ B ++ A := fun b hb => (sub b hb).elim (fun z => List.mem_append_right _ z) fun z => List.mem_append_left _ z
    refine hp _ H F A' ⟨fun _ h => h, fun _ _ h _ => h, fun b hb => .inl (all b hb), fun _ h => .inl h⟩ ⟨wf.f, fun a ha => wf.a a (all a ha), nd n2 n1 fun b hb hA => n3 b hb b hA rfl, fun a ha => wf.ap a (all a ha)⟩ en'
  · exact hp.elim
/-- x = e -/
theorem ds_set {i : Nat} {x : Str} {q : Pos} {m : Mi D} (nd : X.N.Nodup) (hi : X.N[i]? = some x) (hx : Loc X.env.scope x) (he : DE X W p G e m) (wx : Wk G C.Gx) (hs : swapsWith e (some (.Name x q)) pos.line X.env = pure false := by rfl) (hf : X.fn x = true ∨ X.env.scope.names.lookup x = some .local := by first | exact .inl rfl | exact .inr rfl | assumption) :
    DS X W C G (.Assign [.Name x q] e pos) (sSet i m) (G.set i .fz) := by
  obtain ⟨t, pe, l⟩ := he
  refine ⟨_, ps_set nd hi hx pe hs hf, fun F H A σ ρ E wf en hp => ?_⟩
  exact l.useS wf en wx hp fun d ρ1 v H1 F1 A1 wf1 en1 r hp => set_fin (s := .fz) (B := []) wf1 en1 ⟨r, rfl⟩ hp
theorem ds_setO {i : Nat} {x : Str} {q : Pos} {m : Mi D} (nd : X.N.Nodup) (hi : X.N[i]? = some x) (hx : Loc X.env.scope x) (he : DO X W p s G e m) (wx : Wk G C.Gx) (hs : swapsWith e (some (.Name x q)) pos.line X.env = pure false := by rfl) (hf : X.fn x = true ∨ X.env.scope.names.lookup x = some .local := by first | exact .inl rfl | exact .inr rfl | assumption) :
    DS X W C G (.Assign [.Name x q] e pos) (sSet i m) (G.set i s) := by
  obtain ⟨t, pe, l⟩ := he
  refine ⟨_, ps_set nd hi hx pe hs hf, fun F H A σ ρ E wf en hp => ?_⟩
  exact l.useS wf en wx hp fun d ρ1 v H1 F1 A1 B wf1 en1 o hp => set_fin wf1 en1 o hp
/-- return e -/
def sRet (m : Mi D) : Ms := bnd m fun d => ret (.rt d)
theorem ds_ret {m : Mi D} (he : DE X W p G e m) (hsr : C.sr = .fz) (wx : Wk G C.Gx) (wr : Wk G C.Gr) : DS X W C G (.Return (some e) pos) (sRet m) G' := by
  obtain ⟨t, pe, l⟩ := he
  refine ⟨_, ps_ret pe, fun F H A σ ρ E wf en hp => ?_⟩
  refine l.useS wf en wx hp fun d ρ1 v H1 F1 A1 wf1 en1 r hp => ?_
  obtain ⟨A2, en2, sb⟩ := en1.weak wr
  exact hp v σ H1 F1 A2 [] (Stp.sub .refl sb) (wf1.sub sb) en2 (by rw [hsr]; exact ⟨r, rfl⟩)
theorem ds_retO {m : Mi D} (he : DO X W p C.sr G e m) (wx : Wk G C.Gx) (wr : Wk G C.Gr) : DS X W C G (.Return (some e) pos) (sRet m) G' := by
  obtain ⟨t, pe, l⟩ := he
  refine ⟨_, ps_ret pe, fun F H A σ ρ E wf en hp => ?_⟩
  refine l.useS wf en wx hp fun d ρ1 v H1 F1 A1 B wf1 en1 o hp => ?_
  obtain ⟨A2, en2, sb⟩ := en1.weak wr
  exact hp v σ H1 F1 A2 B (Stp.sub .refl (List.Sublist.append_left sb B)) (wf1.sub (List.Sublist.append_left sb B)) en2 o
theorem EnvR.shape {s : Sh} : ∀ {G : List Sh} {σ : L2.St} {ρ : Env} {A} {i : Nat}, EnvR X.K F H G σ ρ A → ρ[i]? = some none → EnvR X.K F H (G.set i s) σ ρ A
  | [], [], [], _, i, h, e => by simp at e
  | g :: G, x :: σ, none :: ρ, A, 0, h, _ => by simpa only [List.set, EnvR] using h
  | g :: G, x :: σ, some d :: ρ, A, 0, h, e => by simp at e
  | g :: G, x :: σ, none :: ρ, A, i + 1, h, e => by
    have h' := EnvR.shape (s := s) (i := i) (show EnvR X.K F H G σ ρ A from by simpa only [EnvR] using h) (by simpa using e)
    simpa only [List.set, EnvR] using h'
  | g :: G, some v :: σ, some d :: ρ, A, i + 1, ⟨A1, A2, h1, h2, eA⟩, e => ⟨A1, A2, h1, EnvR.shape (i := i) h2 (by simpa using e), eA⟩
  | [], [], _ :: _, _, _, h, _ => by simp [EnvR] at h
  | [], _ :: _, _, _, _, h, _ => by simp [EnvR] at h
  | _ :: _, [], _, _, _, h, _ => by simp [EnvR] at h
  | _ :: _, _ :: _, [], _, _, h, _ => by simp [EnvR] at h
  | _ :: _, none :: _, some _ :: _, _, _, h, _ => by simp [EnvR] at h
theorem EnvR.drop {i : Nat} {d : D} (en : EnvR X.K F H G σ ρ A) (hG : G[i]? = some s) (e : ρ[i]? = some (some d)) : ∃ v B A', σ[i]? = some (some v) ∧ Ow X.K F H s v d B ∧ EnvR X.K F H (G.set i .any) σ ρ A' ∧ A.Perm (B ++ A') := by
  obtain ⟨v, B, A', e1, o, en', pm⟩ := en.take hG e
  have l := en.len
  have hi : i < ρ.length := (List.getElem?_eq_some_iff.mp e).1
  have en2 := en'.shape (s := .any) (i := i) (by rw [List.getElem?_set_self hi])
  obtain ⟨A2, en3, pm2⟩ := en2.put (i := i) (s := .any) (v := v) (d := d) (B := []) (by rw [List.getElem?_set_self (by omega)]) (by rw [List.getElem?_set_self hi]) e1 rfl
  refine ⟨v, B, A2, e1, o, ?_, pm.trans (List.Perm.append_left B pm2.symm)⟩
  rw [List.set_set] at en3
  have : ρ.set i (some d) = ρ := by
    apply List.ext_getElem?
    intro j
    by_cases hj : i = j
    · subst hj; rw [List.getElem?_set_self hi, e]
    · rw [List.getElem?_set_ne hj]
  rw [this] at en3
  exact en3
/-- return x, x an owned thing of this frame -/
theorem ds_retV (i : Nat) {x : Str} {q : Pos} (hG : G[i]? = some C.sr) (hN : X.N[i]? = some x) (hv : Vis X.env.scope x) (wr : Wk (G.set i .any) C.Gr) (hd : (x == ("__debug__" : Str)) = false := by decide) (hcd : (x == ("__classdict__" : Str)) = false := by decide) :
    DS X W C G (.Return (some (.Name x q)) pos) (sRet (eVar i)) G' := by
  refine ⟨_, ps_ret (pe_var hN hv hd hcd), fun F H A σ ρ E wf en hp => ?_⟩
  unfold sRet bnd at hp
  cases e : eVar i ρ with
  | bad => rw [e] at hp; exact hp.elim
  | exc x ρ' =>
    unfold eVar at e
    split at e <;> cases e
  | ok d ρ' =>
    rw [e] at hp
    unfold eVar at e
    split at e
    · rename_i d' ed
      cases e
      obtain ⟨v, B, A', e1, o, en', pm⟩ := en.drop hG ed
      refine ⟨v, e1, ?_⟩
      obtain ⟨A2, en2, sb⟩ := en'.weak wr
      have wfp := wf.perm pm
      exact hp v σ H F A2 B (Stp.sub ⟨fun _ h => h, fun _ _ h _ => h, fun b hb => .inl (pm.mem_iff.mpr hb), fun _ h => .inl h⟩ (List.Sublist.append_left sb B)) (wfp.sub (List.Sublist.append_left sb B)) en2 o
    · cases e
def sRetN : Ms := ret (.rt .non)
theorem ds_retN (hsr : C.sr = .fz) (wr : Wk G C.Gr) : DS X W C G (.Return none pos) sRetN G' := by
  refine ⟨_, ps_retN, fun F H A σ ρ E wf en hp => ?_⟩
  obtain ⟨A2, en2, sb⟩ := en.weak wr
  exact hp .non σ H F A2 [] (Stp.sub .refl sb) (wf.sub sb) en2 (by rw [hsr]; exact ⟨.v _, rfl⟩)
/-- e -/
def sExp (m : Mi D) : Ms := bnd m fun _ => ret .nx
theorem ds_exp {m : Mi D} (he : DE X W p G e m) (wx : Wk G C.Gx) (hs : swapsWith e none pos.line X.env = pure false := by rfl) : DS X W C G (.Expr e pos) (sExp m) G := by
  obtain ⟨t, pe, l⟩ := he
  refine ⟨_, ps_expr pe hs, fun F H A σ ρ E wf en hp => ?_⟩
  exact l.useS wf en wx hp fun d ρ1 v H1 F1 A1 wf1 en1 r hp => hp σ H1 F1 A1 .refl wf1 en1
theorem ds_pass : DS X W C G (.Pass pos) sNil G := ⟨_, ps_pass, fun F H A σ ρ E wf en hp => hp σ H F A .refl wf en⟩
theorem ds_break (w : Wk G C.Gb) : DS X W C G (.Break pos) (ret .bk) G' := ⟨_, ps_break, fun F H A σ ρ E wf en hp => by
  obtain ⟨A2, en2, sb⟩ := en.weak w
  exact hp σ H F A2 (Stp.sub .refl sb) (wf.sub sb) en2⟩
theorem ds_cont (w : Wk G C.Gc) : DS X W C G (.Continue pos) (ret .ct) G' := ⟨_, ps_continue, fun F H A σ ρ E wf en hp => by
  obtain ⟨A2, en2, sb⟩ := en.weak w
  exact hp σ H F A2 (Stp.sub .refl sb) (wf.sub sb) en2⟩
/-- never come to -/
theorem ds_never : DS X W C G st (fun _ => .bad) G' := ⟨_, ps_never, fun F H A σ ρ E wf en hp => hp.elim⟩
/-- if -/
def sIf (c : Mi Bool) (m n : Ms) : Ms := bnd c fun k => if k = true then m else n
theorem ds_if {mc : Mi Bool} {m n : Ms} {sa sb : List Stmt} (hc : DT X W p G c mc) (ha : DSs X W C G sa m G') (hb : DSs X W C G sb n G') (wx : Wk G C.Gx) : DS X W C G (.If c sa sb pos) (sIf mc m n) G' := by
  obtain ⟨tc, pc, lc⟩ := hc
  obtain ⟨ta, pa, la⟩ := ha
  obtain ⟨tb, pb, lb⟩ := hb
  refine ⟨_, ps_if pc pa pb, fun F H A σ ρ E wf en hp => ?_⟩
  refine lc.useS wf en wx hp fun k ρ1 k' H1 F1 A1 wf1 en1 r hp => ?_
  cases r
  cases k with
  | true => exact iteT (la _ _ _ _ _ _ wf1 en1 hp)
  | false => exact iteF (lb _ _ _ _ _ _ wf1 en1 hp)
end
end DM
/-! DmI: targets, several assigned at once, op=, lists that are changed. -/
namespace DM
open PySem PySem.Spec PyProof.Rows L2

abbrev Mt := D → Env → Option Env
abbrev Mts := List D → Env → Option Env
def TlG (X : Cx) (G : List Sh) (t : TG) (m : Mt) (G2 : List Sh) (ws : List Nat) : Prop :=
  ∀ F H A σ ρ v d ρ' (Q : L2.St → Hp → Prop), Wf F H A → EnvR X.K F H G σ ρ A → Rp X.K F H v d → m d ρ = some ρ' → (∀ σ' H' F' A', Stp F H A F' H' A' → Wf F' H' A' → EnvR X.K F' H' G2 σ' ρ' A' → (∀ j, j ∉ ws → σ'[j]? = σ[j]?) → Q σ' H') → t v σ H Q
def TlGs (X : Cx) (G : List Sh) (t : TGs) (m : Mts) (G2 : List Sh) (ws : List Nat) : Prop :=
  ∀ F H A σ ρ vs ds ρ' (Q : L2.St → Hp → Prop), Wf F H A → EnvR X.K F H G σ ρ A → Rps X.K F H vs ds → m ds ρ = some ρ' → (∀ σ' H' F' A', Stp F H A F' H' A' → Wf F' H' A' → EnvR X.K F' H' G2 σ' ρ' A' → (∀ j, j ∉ ws → σ'[j]? = σ[j]?) → Q σ' H') → t vs σ H Q
/-- a target -/
def DTg (X : Cx) (G : List Sh) (tg : Expr) (m : Mt) (G2 : List Sh) (ws : List Nat) : Prop := ∃ t, PG X tg t ∧ TlG X G t m G2 ws
def DTs (X : Cx) (G : List Sh) (tgs : List Expr) (m : Mts) (G2 : List Sh) (ws : List Nat) : Prop := ∃ t, PGs X tgs t ∧ TlGs X G t m G2 ws

section
variable {X : Cx} {W : WX} {C : SC} {p p1 p2 p3 : Bool} {G G1 G2 G' : List Sh} {e a b c : Expr} {es : List Expr} {pos : Pos} {F F1 : FS} {H H1 : Hp} {A A1 : List Addr} {σ : L2.St} {ρ ρ1 : Env} {s : Sh} {st : Stmt} {sts rest : List Stmt}
theorem set_env {i : Nat} {d : D} {v : V} {B : List Addr} (wf : Wf F H (B ++ A)) (en : EnvR X.K F H G σ ρ A) (o : Ow X.K F H s v d B) (hi : i < ρ.length) :
    ∃ A', Stp F H (B ++ A) F H A' ∧ Wf F H A' ∧ EnvR X.K F H (G.set i s) (σ.set i (some v)) (ρ.set i (some d)) A' := by
  have l := en.len
  obtain ⟨A', en', sub, nd, _⟩ := en.set (i := i) (s := s) (by omega) o
  obtain ⟨n1, n2, n3⟩ := List.nodup_append.mp wf.nd
  have all : ∀ b ∈ A', b ∈ B ++ A := fun b hb => (sub b hb).elim (fun z => List.mem_append_right _ z) fun z => List.mem_append_left _ z
  exact ⟨A', ⟨fun _ h => h, fun _ _ h _ => h, fun b hb => .inl (all b hb), fun _ h => .inl h⟩, ⟨wf.f, fun a ha => wf.a a (all a ha), nd n2 n1 fun b hb hA => n3 b hb b hA rfl, fun a ha => wf.ap a (all a ha)⟩, en'⟩
def gNm (i : Nat) : Mt := fun d ρ => if i < ρ.length then some (ρ.set i (some d)) else none
theorem dt_name (i : Nat) {x : Str} (nd : X.N.Nodup) (hi : X.N[i]? = some x) (hx : Loc X.env.scope x) (hf : X.fn x = true ∨ X.env.scope.names.lookup x = some .local := by first | exact .inl rfl | exact .inr rfl | assumption) : DTg X G (.Name x pos) (gNm i) (G.set i .fz) [i] := by
  refine ⟨_, pg_name nd hi hx hf, fun F H A σ ρ v d ρ' Q wf en r e k => ?_⟩
  unfold gNm at e
  split at e
  · cases e
    obtain ⟨A', h1, h2, h3⟩ := set_env (s := .fz) (B := []) wf en ⟨r, rfl⟩ (by assumption)
    exact k _ H F A' h1 h2 h3 fun j hj => List.getElem?_set_ne fun z => hj (by rw [z]; exact List.mem_singleton.mpr rfl)
  · cases e
def gsNil : Mts := fun ds ρ => match ds with
  | [] => some ρ
  | _ => none
def gsCons (m : Mt) (ms : Mts) : Mts := fun ds ρ => match ds with
  | d :: ds => (m d ρ).bind fun ρ1 => ms ds ρ1
  | [] => none
theorem dts_nil : DTs X G [] gsNil G [] := by
  refine ⟨_, pgs_nil, fun F H A σ ρ vs ds ρ' Q wf en r e k => ?_⟩
  unfold gsNil at e
  split at e
  · cases e; cases r; exact ⟨rfl, k σ H F A .refl wf en fun _ _ => rfl⟩
  · cases e
theorem dts_cons {m : Mt} {ms : Mts} {ws1 ws2 : List Nat} (h1 : DTg X G e m G1 ws1) (h2 : DTs X G1 es ms G2 ws2) (hs : (assignEach (e :: es) X.env).map (·.2) = assign e X.env :: (assignEach es X.env).map (·.2) := by rfl) : DTs X G (e :: es) (gsCons m ms) G2 (ws1 ++ ws2) := by
  obtain ⟨t1, pe1, l1⟩ := h1
  obtain ⟨t2, pe2, l2⟩ := h2
  refine ⟨_, pgs_cons pe1 pe2 hs, fun F H A σ ρ vs ds ρ' Q wf en r e k => ?_⟩
  unfold gsCons at e
  split at e
  · rename_i d ds
    obtain ⟨ρ1, e1, e2⟩ := Option.bind_eq_some_iff.mp e
    cases r with
    | cons r rs =>
      refine ⟨_, _, rfl, l1 F H A σ ρ _ _ _ _ wf en r e1 fun σ1 H1 F1 A1 st1 wf1 en1 o1 => ?_⟩
      exact l2 F1 H1 A1 σ1 ρ1 _ _ _ _ wf1 en1 (rs.mono (st1.fut wf)) e2 fun σ2 H2 F2 A2 st2 wf2 en2 o2 => k σ2 H2 F2 A2 (st1.trans st2) wf2 en2 fun j hj => (o2 j fun z => hj (List.mem_append_right _ z)).trans (o1 j fun z => hj (List.mem_append_left _ z))
  · cases e
def gTupM (n : Nat) (ms : Mts) : Mt := fun d ρ => match d with
  | .tup ds => if ds.length = n then ms ds ρ else none
  | .lst ds => if ds.length = n then ms ds ρ else none
  | _ => none
theorem PG.or {tg : Expr} {t u : TG} (h1 : PG X tg t) (h2 : PG X tg u) : PG X tg (fun v σ H Q => t v σ H Q ∨ u v σ H Q) :=
  ⟨fun pins s σ H v w Q I r h => h.elim (h1.run pins s σ H v w Q I r) (h2.run pins s σ H v w Q I r)⟩
/-- (a, b, ..) = a tuple, or a list -/
theorem dt_tup {k n : Nat} {ms : Mts} {ws : List Nat} (hc : X.calm = true) (h : DTs X G es ms G2 ws) (hn : (assignEach es X.env).length = n := by rfl) (hst : (assignEach es X.env).findIdx? (·.1) = none := by rfl) : DTg X G (.Tuple es k pos) (gTupM n ms) G2 ws := by
  obtain ⟨t, pe, l⟩ := h
  refine ⟨_, PG.or (pg_tup hc pe hn hst) (pg_lst hc pe hn hst), fun F H A σ ρ v d ρ' Q wf en r e k => ?_⟩
  unfold gTupM at e
  split at e
  · split at e
    · cases r with
      | tup h r => exact .inl ⟨_, _, rfl, h.sq, by rw [r.length]; assumption, l F H A σ ρ _ _ _ _ wf en r e k⟩
    · cases e
  · split at e
    · cases r with
      | lst f h r => exact .inr ⟨_, _, rfl, SqL.of h, by rw [r.length]; assumption, l F H A σ ρ _ _ _ _ wf en r e k⟩
    · cases e
  · cases e
/-- target = e -/
def setT (m : Mt) (d : D) : Ms := fun ρ => match m d ρ with
  | some ρ' => .ok .nx ρ'
  | none => .bad
def sAsg (m : Mi D) (mt : Mt) : Ms := bnd m fun d => setT mt d
theorem ds_asg {tg : Expr} {m : Mi D} {mt : Mt} {ws : List Nat} (he : DE X W p G e m) (ht : DTg X G tg mt G2 ws) (wx : Wk G C.Gx) (hs : swapsWithSole [tg] e pos.line X.env = pure false := by rfl) (hw : swappedStores [tg] e X.env = pure none := by rfl)
    (h1 : (assignEach [tg] X.env).map (·.2) = [assign tg X.env] := by rfl) : DS X W C G (.Assign [tg] e pos) (sAsg m mt) G2 := by
  obtain ⟨t, pe, l⟩ := he
  obtain ⟨t2, pe2, l2⟩ := ht
  refine ⟨_, ps_asg pe pe2 hs hw h1, fun F H A σ ρ E wf en hp => ?_⟩
  refine l.useS wf en wx hp fun d ρ1 v H1 F1 A1 wf1 en1 r hp => ?_
  unfold setT at hp
  cases e1 : mt d ρ1 with
  | none => rw [e1] at hp; exact hp.elim
  | some ρ' =>
    rw [e1] at hp
    exact l2 F1 H1 A1 σ ρ1 v d ρ' _ wf1 en1 r e1 fun σ' H' F' A' s w e _ => hp σ' H' F' A' s w e

/-! ### several at once; owned things among them -/
def PgA (X : Cx) (W : WX) (sh : List Sh) (G : List Sh) (σ : L2.St) (F : FS) (H : Hp) (A : List Addr) (o : Out (List D)) (Q : List V → Hp → Prop) : Prop :=
  match o with
  | .ok ds ρ' => ∀ vs H' F' A' B, Stp F H A F' H' (B ++ A') → Wf F' H' (B ++ A') → EnvR X.K F' H' G σ ρ' A' → EnvR X.K F' H' sh (vs.map some) (ds.map some) B → Q vs H'
  | .exc x ρ' => ∀ cls dd H' F' A', Stp F H A F' H' A' → Wf F' H' A' → EnvR X.K F' H' G σ ρ' A' → XR X.K X.mg F' H' x cls dd → W cls dd σ H'
  | .bad => False
def DAo (X : Cx) (W : WX) (G : List Sh) (sh : List Sh) (es : List Expr) (m : Mi (List D)) : Prop :=
  ∃ t, PA X es t ∧ ∀ F H A σ ρ Q, Wf F H A → EnvR X.K F H G σ ρ A → PgA X W sh G σ F H A (m ρ) Q → t σ H Q
theorem dao_nil : DAo X W G [] [] aNil := ⟨_, pa_nil, fun F H A σ ρ Q wf en hp => hp [] H F A [] .refl wf en rfl⟩
/-- one more, of the shape s -/
theorem dao_O {sh : List Sh} {m : Mi D} {ms : Mi (List D)} (h1 : DO X W p s G e m) (h2 : DAo X W G sh es ms) (hs : starEach (e :: es) X.env = (false, eval e X.env) :: starEach es X.env := by rfl) : DAo X W G (s :: sh) (e :: es) (aCons m ms) := by
  obtain ⟨t1, pe1, l1⟩ := h1
  obtain ⟨t2, pe2, l2⟩ := h2
  refine ⟨_, pa_cons pe1 pe2 hs, fun F H A σ ρ Q wf en hp => ?_⟩
  refine l1 F H A σ ρ _ wf en ?_
  unfold aCons bnd at hp
  cases e1 : m ρ with
  | bad => rw [e1] at hp; exact hp
  | exc x ρ1 => rw [e1] at hp; exact fun cls dd H' F' A' st wf' en' r _ => hp cls dd H' F' A' st wf' en' r
  | ok d ρ1 =>
    rw [e1] at hp
    simp only [Out.bind_ok] at hp
    intro v H1 F1 A1 B1 s1 wf1 en1 o1 _
    obtain ⟨n1, n2, n3⟩ := List.nodup_append.mp wf1.nd
    have wf1' := wf_cons wf1
    refine l2 F1 H1 A1 σ ρ1 _ wf1' en1 ?_
    -- what stands at B1 is kept by a step of the frame alone
    have keepB : ∀ {F2 H2 C}, Stp F1 H1 A1 F2 H2 C → Wf F2 H2 C → Stay F1 H1 B1 F2 H2 ∧ (∀ a ∈ B1, a ∉ C) ∧ (∀ a ∈ B1, ¬ F2 a) ∧ ∀ a ∈ B1, H2 a ≠ none := fun {F2 H2 C} s2 w2 => by
      have nn : ∀ a ∈ B1, H1 a ≠ none := fun a ha => wf1.a a (List.mem_append_left _ ha)
      have nA : ∀ a ∈ B1, a ∉ A1 := fun a ha z => n3 a ha a z rfl
      have kp : ∀ a ∈ B1, H2 a = H1 a := fun a ha => by
        cases q : H1 a with
        | none => exact absurd q (nn a ha)
        | some o => exact s2.keep a o q (nA a ha)
      refine ⟨⟨s2.fut wf1', kp⟩, fun a ha z => ?_, fun a ha z => ?_, fun a ha z => nn a ha (by rw [← kp a ha]; exact z)⟩
      · exact (s2.own a z).elim (nA a ha) (nn a ha)
      · exact (s2.fn a z).elim (wf1.ap a (List.mem_append_left _ ha)) fun z => z.elim (nA a ha) (nn a ha)
    cases e2 : ms ρ1 with
    | bad => rw [e2] at hp; exact hp
    | exc x ρ2 =>
      rw [e2] at hp
      intro cls dd H2 F2 A2 s2 wf2 en2 xr
      have s1' : Stp F H A F1 H1 A1 := stp_cons s1
      exact hp cls dd H2 F2 A2 (s1'.trans s2) wf2 en2 xr
    | ok ds ρ2 =>
      rw [e2] at hp
      intro vs H2 F2 A2 B2 s2 wf2 en2 o2
      obtain ⟨sy, d1, d2, d3⟩ := keepB s2 wf2
      refine hp (v :: vs) H2 F2 A2 (B1 ++ B2) ?_ ?_ en2 ⟨B1, B2, o1.mono sy, o2, rfl⟩
      · have t := (stp_cons s1).trans s2
        refine ⟨t.f, t.keep, fun b hb => ?_, t.fn⟩
        rw [List.append_assoc] at hb
        rcases List.mem_append.mp hb with z | z
        · exact s1.own b (List.mem_append_left _ z)
        · exact t.own b z
      · rw [List.append_assoc]
        exact ⟨wf2.f, fun a ha => (List.mem_append.mp ha).elim (d3 a) (wf2.a a), List.nodup_append.mpr ⟨n1, wf2.nd, fun a ha b hb z => d1 a ha (z ▸ hb)⟩, fun a ha => (List.mem_append.mp ha).elim (d2 a) (wf2.ap a)⟩
theorem DE.doz {m : Mi D} (h : DE X W p G e m) : DO X W p .fz G e m := by
  obtain ⟨t, pe, l⟩ := h
  refine ⟨t, pe, fun F H A σ ρ Q wf en hp => l F H A σ ρ Q wf en ?_⟩
  cases e : m ρ with
  | bad => rw [e] at hp; exact hp
  | exc x ρ1 => rw [e] at hp; exact hp
  | ok d ρ1 =>
    rw [e] at hp
    exact fun v H1 F1 A1 s1 wf1 en1 r pp => hp v H1 F1 A1 [] s1 wf1 en1 ⟨r, rfl⟩ fun q => ⟨(pp q).1, (pp q).2.1, (pp q).2.2, fun _ z => (nomatch z)⟩
def setAll : List Nat → List D → Env → Option Env
  | [], [], ρ => some ρ
  | i :: is, d :: ds, ρ => if i < ρ.length then setAll is ds (ρ.set i (some d)) else none
  | _, _, _ => none
def shAll : List Nat → List Sh → List Sh → List Sh
  | i :: is, s :: ss, G => shAll is ss (G.set i s)
  | _, _, G => G
def stAll : List Nat → List V → L2.St → L2.St
  | i :: is, v :: vs, σ => stAll is vs (σ.set i (some v))
  | _, _, σ => σ
theorem set_all : ∀ {is : List Nat} {sh : List Sh} {vs : List V} {ds : List D} {G : List Sh} {σ : L2.St} {ρ ρ' : Env} {A B}, Wf F H (B ++ A) → EnvR X.K F H G σ ρ A → EnvR X.K F H sh (vs.map some) (ds.map some) B → setAll is ds ρ = some ρ' →
    ∃ A', Stp F H (B ++ A) F H A' ∧ Wf F H A' ∧ EnvR X.K F H (shAll is sh G) (stAll is vs σ) ρ' A'
  | [], sh, vs, ds, G, σ, ρ, ρ', A, B, wf, en, o, e => by
    cases ds with
    | cons d ds => simp [setAll] at e
    | nil =>
      cases e
      cases vs with
      | cons v vs => cases sh <;> simp [EnvR] at o
      | nil =>
        cases sh with
        | cons s sh => simp [EnvR] at o
        | nil =>
          have eB : B = [] := o
          subst eB
          exact ⟨A, .refl, wf, en⟩
  | i :: is, sh, vs, ds, G, σ, ρ, ρ', A, B, wf, en, o, e => by
    cases ds with
    | nil => simp [setAll] at e
    | cons d ds =>
      cases vs with
      | nil => cases sh <;> simp [EnvR] at o
      | cons v vs =>
        cases sh with
        | nil => simp [EnvR] at o
        | cons s sh =>
          obtain ⟨B1, B2, o1, o2, eB⟩ := o
          subst eB
          unfold setAll at e
          split at e
          · have pm : (B1 ++ B2 ++ A).Perm (B2 ++ (B1 ++ A)) := by
              rw [← List.append_assoc]
              exact List.Perm.append_right A List.perm_append_comm
            have wf' := wf.perm pm
            obtain ⟨A1, s1, w1, en1⟩ := set_env (i := i) (wf_cons wf') en o1 (by assumption)
            obtain ⟨n1, n2, n3⟩ := List.nodup_append.mp wf'.nd
            have i1 : ∀ b ∈ A1, b ∈ B1 ++ A := fun b hb => (s1.own b hb).elim id fun z => absurd z (w1.a b hb)
            have w2 : Wf F H (B2 ++ A1) := ⟨wf.f, fun a ha => (List.mem_append.mp ha).elim (fun z => wf'.a a (List.mem_append_left _ z)) (w1.a a), List.nodup_append.mpr ⟨n1, w1.nd, fun a ha b hb z => n3 a ha b (i1 b hb) z⟩, fun a ha => (List.mem_append.mp ha).elim (fun z => wf'.ap a (List.mem_append_left _ z)) (w1.ap a)⟩
            obtain ⟨A2, s3, w3, en3⟩ := set_all (is := is) w2 en1 o2 e
            refine ⟨A2, ?_, w3, en3⟩
            refine ⟨fun _ h => h, fun _ _ h _ => h, fun b hb => ?_, fun _ h => .inl h⟩
            rcases s3.own b hb with z | z
            · refine .inl (pm.mem_iff.mpr ?_)
              rcases List.mem_append.mp z with q | q
              · exact List.mem_append_left _ q
              · exact List.mem_append_right _ (i1 b q)
            · exact absurd z (w3.a b hb)
          · cases e
def setA (is : List Nat) (ds : List D) : Ms := fun ρ => match setAll is ds ρ with
  | some ρ' => .ok .nx ρ'
  | none => .bad
def sPar (is : List Nat) (m : Mi (List D)) : Ms := bnd m fun ds => setA is ds
theorem par_run {sh : List Sh} {is : List Nat} {ta : TA} {m : Mi (List D)} {E : Ends} {Q1 : List V → Hp → Prop} (l : ∀ F H A σ ρ Q, Wf F H A → EnvR X.K F H G σ ρ A → PgA X W sh G σ F H A (m ρ) Q → ta σ H Q) (wf : Wf F H A) (en : EnvR X.K F H G σ ρ A) (wx : Wk G C.Gx)
    (hp : PgS X W C (shAll is sh G) F H A (sPar is m ρ) E) (hl : ∀ (F : FS) (H : Hp) (B : List Addr) (vs : List V) (ds : List D), EnvR X.K F H sh (vs.map some) (ds.map some) B → ∀ H, E.nx (stAll is vs σ) H → Q1 vs H) : ta σ H Q1 := by
  refine l F H A σ ρ _ wf en ?_
  unfold sPar bnd at hp
  cases e1 : m ρ with
  | bad => rw [e1] at hp; exact hp
  | exc x ρ1 =>
    rw [e1] at hp
    intro cls dd H1 F1 A1 s1 wf1 en1 xr
    obtain ⟨A2, en2, sb⟩ := en1.weak wx
    exact hp cls dd σ H1 F1 A2 (s1.sub sb) (wf1.sub sb) en2 xr
  | ok ds ρ1 =>
    rw [e1] at hp
    simp only [Out.bind_ok] at hp
    intro vs H1 F1 A1 B s1 wf1 en1 o1
    refine hl F1 H1 B vs ds o1 H1 ?_
    unfold setA at hp
    cases e2 : setAll is ds ρ1 with
    | none => rw [e2] at hp; exact hp.elim
    | some ρ2 =>
      rw [e2] at hp
      obtain ⟨A2, s2, w2, en2⟩ := set_all wf1 en1 o1 e2
      exact hp _ H1 F1 A2 (s1.trans s2) w2 en2
theorem vs2 {sh : List Sh} {B : List Addr} {vs : List V} {ds : List D} {s1 s2 : Sh} (o : EnvR X.K F H [s1, s2] (vs.map some) (ds.map some) B) : ∃ v w, vs = [v, w] := by
  have l := o.len
  simp at l
  match vs, l with
  | [v, w], _ => exact ⟨v, w, rfl⟩
theorem vs3 {B : List Addr} {vs : List V} {ds : List D} {s1 s2 s3 : Sh} (o : EnvR X.K F H [s1, s2, s3] (vs.map some) (ds.map some) B) : ∃ u v w, vs = [u, v, w] := by
  have l := o.len
  simp at l
  match vs, l with
  | [u, v, w], _ => exact ⟨u, v, w, rfl⟩
/-- a, b = e1, e2: plain local names -/
theorem ds_par2 {i j : Nat} {x y : Str} {px py pt pt2 : Pos} {kt k2 : Nat} {s1 s2 : Sh} {m : Mi (List D)} (hc : X.calm = true) (hN : X.N.Nodup) (hi : X.N[i]? = some x) (hj : X.N[j]? = some y) (hij : i ≠ j)
    (hx : X.env.scope.names.lookup x = some .local) (hy : X.env.scope.names.lookup y = some .local) (ha : DAo X W G [s1, s2] [a, b] m) (wx : Wk G C.Gx)
    (hw : swappedStores [.Tuple [.Name x px, .Name y py] kt pt] (.Tuple [a, b] k2 pt2) X.env = pure (some [x, y]))
    (hs : swapsWithSole [.Tuple [.Name x px, .Name y py] kt pt] (.Tuple [a, b] k2 pt2) pos.line X.env = pure false := by rfl) :
    DS X W C G (.Assign [.Tuple [.Name x px, .Name y py] kt pt] (.Tuple [a, b] k2 pt2) pos) (sPar [i, j] m) ((G.set i s1).set j s2) := by
  obtain ⟨t, pe, l⟩ := ha
  refine ⟨_, ps_par hc hN hi hj hij hx hy pe hw hs, fun F H A σ ρ E wf en hp => ?_⟩
  refine par_run l wf en wx hp fun F H B vs ds o H' q => ?_
  obtain ⟨v, w, rfl⟩ := vs2 (sh := []) o
  exact ⟨v, w, rfl, q⟩
theorem ds_par3 {i j l : Nat} {x y z : Str} {px py pz pt pt2 : Pos} {kt k2 : Nat} {s1 s2 s3 : Sh} {m : Mi (List D)} (hc : X.calm = true) (hN : X.N.Nodup) (hi : X.N[i]? = some x) (hj : X.N[j]? = some y) (hl : X.N[l]? = some z) (hij : i ≠ j) (hil : i ≠ l) (hjl : j ≠ l)
    (hx : X.env.scope.names.lookup x = some .local) (hy : X.env.scope.names.lookup y = some .local) (hz : X.env.scope.names.lookup z = some .local) (ha : DAo X W G [s1, s2, s3] [a, b, c] m) (wx : Wk G C.Gx)
    (hw : swappedStores [.Tuple [.Name x px, .Name y py, .Name z pz] kt pt] (.Tuple [a, b, c] k2 pt2) X.env = pure (some [x, y, z]))
    (hs : swapsWithSole [.Tuple [.Name x px, .Name y py, .Name z pz] kt pt] (.Tuple [a, b, c] k2 pt2) pos.line X.env = pure false := by rfl) :
    DS X W C G (.Assign [.Tuple [.Name x px, .Name y py, .Name z pz] kt pt] (.Tuple [a, b, c] k2 pt2) pos) (sPar [i, j, l] m) (((G.set i s1).set j s2).set l s3) := by
  obtain ⟨t, pe, lt⟩ := ha
  refine ⟨_, ps_par3 hc hN hi hj hl hij hil hjl hx hy hz pe hw hs, fun F H A σ ρ E wf en hp => ?_⟩
  refine par_run lt wf en wx hp fun F H B vs ds o H' q => ?_
  obtain ⟨u, v, w, rfl⟩ := vs3 o
  exact ⟨u, v, w, rfl, q⟩
/-- names one after another -/
def gNames : List Nat → TGs
  | [] => L2.gNil
  | i :: is => gCons (gName i) (gNames is)
theorem gNames_run : ∀ {is : List Nat} {vs : List V} {σ : L2.St} {H : Hp} {Q : L2.St → Hp → Prop}, is.length = vs.length → Q (stAll is vs σ) H → gNames is vs σ H Q
  | [], [], _, _, _, _, q => ⟨rfl, q⟩
  | i :: is, v :: vs, _, _, _, l, q => ⟨v, vs, rfl, gNames_run (is := is) (by simpa using l) q⟩
  | [], _ :: _, _, _, _, l, _ => by simp at l
  | _ :: _, [], _, _, _, l, _ => by simp at l
/-- (a, b, ..) = e1, e2, ..: the tuple is laid, then taken apart -/
theorem ds_parT {is : List Nat} {tgs : List Expr} {pt pt2 : Pos} {kt k2 : Nat} {sh : List Sh} {m : Mi (List D)} (hc : X.calm = true) (hg : PGs X tgs (gNames is)) (ha : DAo X W G sh es m) (wx : Wk G C.Gx) (hsl : sh.length = is.length) (hle : is.length ≤ 1000)
    (hw : swappedStores [.Tuple tgs kt pt] (.Tuple es k2 pt2) X.env = pure none := by rfl) (hs : swapsWithSole [.Tuple tgs kt pt] (.Tuple es k2 pt2) pos.line X.env = pure false := by rfl)
    (hn : (assignEach tgs X.env).length = is.length := by rfl) (hst : (assignEach tgs X.env).findIdx? (·.1) = none := by rfl) (h1 : (assignEach [.Tuple tgs kt pt] X.env).map (·.2) = [assign (.Tuple tgs kt pt) X.env] := by rfl) :
    DS X W C G (.Assign [.Tuple tgs kt pt] (.Tuple es k2 pt2) pos) (sPar is m) (shAll is sh G) := by
  obtain ⟨t, pe, l⟩ := ha
  refine ⟨_, ps_asg (pe_tup pe) (pg_tup hc hg hn hst) hs hw h1, fun F H A σ ρ E wf en hp => ?_⟩
  unfold sPar bnd at hp
  refine l F H A σ ρ _ wf en ?_
  cases e1 : m ρ with
  | bad => rw [e1] at hp; exact hp
  | exc x ρ1 =>
    rw [e1] at hp
    intro cls dd H1 F1 A1 s1 wf1 en1 xr
    obtain ⟨A2, en2, sb⟩ := en1.weak wx
    exact hp cls dd σ H1 F1 A2 (s1.sub sb) (wf1.sub sb) en2 xr
  | ok ds ρ1 =>
    rw [e1] at hp
    simp only [Out.bind_ok] at hp
    intro vs H1 F1 A1 B s1 wf1 en1 o1
    have hv : vs.length = is.length := by
      have := o1.len
      simp at this
      omega
    refine ⟨by rw [szl]; omega, fun q hq => ?_⟩
    refine ⟨q, vs, rfl, SqT.of upd_same, hv, gNames_run hv.symm ?_⟩
    unfold setA at hp
    cases e2 : setAll is ds ρ1 with
    | none => rw [e2] at hp; exact hp.elim
    | some ρ2 =>
      rw [e2] at hp
      have ps : Pst F1 H1 F1 (upd H1 q (.tup vs)) := Pst.lay0 hq wf1.f
      have wf2 := ps.wf wf1
      have en2 := en1.mono (ps.stay fun a ha => wf1.a a (List.mem_append_right _ ha))
      have o2 := o1.mono (ps.stay fun a ha => wf1.a a (List.mem_append_left _ ha))
      obtain ⟨A2, s2, w2, en3⟩ := set_all wf2 en2 o2 e2
      exact hp _ _ F1 A2 ((s1.trans ps.stp).trans s2) w2 en3
end
end DM
/-! DmJ: what is walked; for, while. -/
namespace DM
open PySem PySem.Spec PyProof.Rows L2

/-- J walks ds, whatever becomes of what doesn't stay -/
def ItD (K : PySem.W.Frag) (F : FS) (H : Hp) (J : It) (ds : List D) : Prop :=
  ∀ F1 H1, Fut F H F1 H1 → (∀ a, F1 a → H1 a ≠ none) → ∀ i : Nat, (ds.length ≤ i → J.stop i H1) ∧
    ∀ d, ds[i]? = some d → J.go i H1 ∧ ∀ x H2, J.yld i H1 x H2 → ∃ F2, Pst F1 H1 F2 H2 ∧ Rp K F2 H2 x d
def DI (X : Cx) (W : WX) (p : Bool) (G : List Sh) (tg e : Expr) (m : Mi (List D)) : Prop := ∃ wi, PI X tg e wi ∧ Tl X W p (ItD X.K) G wi m

def itemsOf : D → Option (List D)
  | .lst xs => some xs
  | .tup xs => some xs
  | .scr ns => some (ns.map D.int)
  | .v (.str s) => some (s.cps.toList.map fun c => D.str ⟨#[c]⟩)
  | _ => none
def iVal (m : Mi D) : Mi (List D) := bnd m fun x => lift (itemsOf x)

section
variable {X : Cx} {W : WX} {C : SC} {p p1 p2 p3 : Bool} {G G1 G2 G' Gh : List Sh} {e a b c tg : Expr} {es : List Expr} {pos q : Pos} {F F1 : FS} {H H1 : Hp} {A A1 : List Addr} {σ : L2.St} {ρ ρ1 : Env} {s : Sh} {st : Stmt} {sts rest : List Stmt}
theorem PI.or {w1 w2 : TI} (h1 : PI X tg e w1) (h2 : PI X tg e w2) : PI X tg e (fun σ H R => w1 σ H R ∨ w2 σ H R) :=
  ⟨fun pins s σ H R I h => h.elim (h1.run pins s σ H R I) (h2.run pins s σ H R I)⟩
theorem itd_lst {K : PySem.W.Frag} {q : Addr} {vs ds} (f : F q) (h : H q = some (.lst vs)) (r : Rps K F H vs ds) : ItD K F H (Itl K q) ds := by
  intro F1 H1 m nf i
  have h1 := m.l q vs f h
  refine ⟨fun hi => ⟨vs, SqL.of h1, by rw [r.length]; exact hi⟩, fun d e => ?_⟩
  obtain ⟨v, e1, r1⟩ := r.get e
  refine ⟨⟨vs, v, SqL.of h1, e1⟩, fun x H2 y => ?_⟩
  obtain ⟨rfl, y⟩ := y
  have := y vs (SqL.of h1)
  rw [e1] at this; cases this
  exact ⟨F1, Pst.refl, r1.mono m⟩
theorem itd_scr {K : PySem.W.Frag} {q : Addr} {ns : List Int} (h : LstF K F H q (ns.map V.int)) : ItD K F H (Itl K q) (ns.map D.int) := by
  intro F1 H1 m nf i
  have hq : SqL K H1 q (ns.map V.int) := (h.mono m).sq
  refine ⟨fun hi => ⟨_, hq, by rw [List.length_map]; rw [List.length_map] at hi; exact hi⟩, fun d e => ?_⟩
  obtain ⟨v, e1, r1⟩ := (Rps.ints (K := K) (F := F1) (H := H1) ns).get e
  refine ⟨⟨_, v, hq, e1⟩, fun x H2 y => ?_⟩
  obtain ⟨rfl, y⟩ := y
  have := y _ hq
  rw [e1] at this; cases this
  exact ⟨F1, Pst.refl, r1⟩
theorem itd_tup {K : PySem.W.Frag} {q : Addr} {vs ds} (h : TupF K F H q vs) (r : Rps K F H vs ds) : ItD K F H (Itt K q) ds := by
  intro F1 H1 m nf i
  have h1 := (h.mono m).sq
  refine ⟨fun hi => ⟨vs, h1, by rw [r.length]; exact hi⟩, fun d e => ?_⟩
  obtain ⟨v, e1, r1⟩ := r.get e
  refine ⟨⟨vs, v, h1, e1⟩, fun x H2 y => ?_⟩
  obtain ⟨rfl, y⟩ := y
  have := y vs h1
  rw [e1] at this; cases this
  exact ⟨F1, Pst.refl, r1.mono m⟩
theorem itd_str {K : PySem.W.Frag} {x : Str} : ItD K F H (Its x) (x.cps.toList.map fun c => D.str ⟨#[c]⟩) := by
  intro F1 H1 m nf i
  refine ⟨fun hi => ?_, fun d e => ?_⟩
  · show x.cps.size ≤ i
    simpa using hi
  · rw [List.getElem?_map] at e
    obtain ⟨c, e1, e2⟩ := Option.map_eq_some_iff.mp e
    subst e2
    have e1' : x.cps[i]? = some c := by simpa using e1
    refine ⟨?_, fun z H2 y => ?_⟩
    · show i < x.cps.size
      exact (Array.getElem?_eq_some_iff.mp e1').1
    · obtain ⟨rfl, c', h1, rfl⟩ := y
      rw [e1'] at h1; cases h1
      exact ⟨F1, Pst.refl, .v _⟩
theorem di_val {m : Mi D} (h : DE X W p G e m) : DI X W (p && true) G tg e (iVal m) := by
  obtain ⟨t, pe, l⟩ := h
  refine ⟨_, DM.PI.or (pi_list pe) (DM.PI.or (pi_tup pe) (pi_str pe)), fun F H A σ ρ R wf en hp => ?_⟩
  unfold iVal bnd at hp
  have other : ∀ {Q1 : V → Hp → Prop}, (∀ d ρ1, m ρ = .ok d ρ1 → ∀ v H1 F1 A1, Wf F1 H1 A1 → EnvR X.K F1 H1 G σ ρ1 A1 → Rp X.K F1 H1 v d → Pg X W true (ItD X.K) G σ F1 H1 A1 ρ1 (lift (itemsOf d) ρ1) R → Q1 v H1) → t σ H Q1 := fun {Q1} k => by
    refine l F H A σ ρ Q1 wf en ?_
    cases em : m ρ with
    | bad => rw [em] at hp; exact hp
    | exc x ρ' =>
      rw [em] at hp
      exact fun cls dd H' F' A' st wf' en' r pp => hp cls dd H' F' A' st wf' en' r fun q => pp (Bool.and_eq_true_iff.mp q).1
    | ok d ρ' =>
      rw [em] at hp
      exact fun v H' F' A' st wf' en' r pp => k d ρ' em v H' F' A' wf' en' r (Pg.after st pp hp)
  cases em : m ρ with
  | bad => rw [em] at hp; exact hp.elim
  | exc x ρ' => exact .inl (other fun d ρ1 e => by rw [em] at e; cases e)
  | ok d ρ' =>
    have one : ∀ {Q1 : V → Hp → Prop}, (∀ v H1 F1 A1, Wf F1 H1 A1 → EnvR X.K F1 H1 G σ ρ' A1 → Rp X.K F1 H1 v d → Pg X W true (ItD X.K) G σ F1 H1 A1 ρ' (lift (itemsOf d) ρ') R → Q1 v H1) → t σ H Q1 := fun {Q1} k =>
      other fun d1 ρ1 e => by rw [em] at e; cases e; exact k
    cases d with
    | lst xs =>
      refine .inl (one fun v H1 F1 A1 wf1 en1 r hp => ?_)
      cases r with
      | lst f h r => exact ⟨_, rfl, ⟨_, SqL.of h⟩, hp.fin0 wf1 en1 (itd_lst f h r)⟩
    | scr xs =>
      refine .inl (one fun v H1 F1 A1 wf1 en1 r hp => ?_)
      cases r with
      | scr h => exact ⟨_, rfl, ⟨_, h.sq⟩, hp.fin0 wf1 en1 (itd_scr h)⟩
    | tup xs =>
      refine .inr (.inl (one fun v H1 F1 A1 wf1 en1 r hp => ?_))
      cases r with
      | tup h r => exact ⟨_, rfl, ⟨_, h.sq⟩, hp.fin0 wf1 en1 (itd_tup h r)⟩
    | dct kvs =>
      exact .inl (one fun v H1 F1 A1 wf1 en1 r hp => hp.elim)
    | v x =>
      cases x with
      | str z =>
        refine .inr (.inr (one fun v H1 F1 A1 wf1 en1 r hp => ?_))
        cases r
        exact ⟨_, rfl, hp.fin0 wf1 en1 itd_str⟩
      | _ => exact .inl (one fun v H1 F1 A1 wf1 en1 r hp => hp.elim)
/-- range -/
def big (i : Int) : Bool := decide (-(2 ^ 62) ≤ i) && decide (i < 2 ^ 62)
def rngOf : List D → Option (List D)
  | [.v (.int j)] => if big j then some ((List.range j.toNat).map fun (k : Nat) => D.int (0 + (k : Int))) else none
  | [.v (.int i), .v (.int j)] => if big i && big j then some ((List.range (j - i).toNat).map fun (k : Nat) => D.int (i + (k : Int))) else none
  | _ => none
def iRng (m : Mi (List D)) : Mi (List D) := bnd m fun xs => lift (rngOf xs)
theorem itd_rng {K : PySem.W.Frag} {lo : Int} {n : Nat} : ItD K F H (Itr lo n) ((List.range n).map fun (k : Nat) => D.int (lo + (k : Int))) := by
  intro F1 H1 m nf i
  refine ⟨fun hi => ?_, fun d e => ?_⟩
  · show n ≤ i
    simpa using hi
  · rw [List.getElem?_map] at e
    obtain ⟨c, e1, e2⟩ := Option.map_eq_some_iff.mp e
    subst e2
    obtain ⟨h1, h2⟩ := List.getElem?_eq_some_iff.mp e1
    rw [List.getElem_range] at h2
    rw [List.length_range] at h1
    subst h2
    refine ⟨h1, fun z H2 y => ?_⟩
    obtain ⟨rfl, rfl⟩ := y
    exact ⟨F1, Pst.refl, .v _⟩
theorem big_iff {i : Int} (h : big i = true) : -(2 ^ 62) ≤ i ∧ i < 2 ^ 62 := by
  obtain ⟨a, b⟩ := Bool.and_eq_true_iff.mp h
  exact ⟨of_decide_eq_true a, of_decide_eq_true b⟩
theorem rps_int1 {K : PySem.W.Frag} {vs : List V} {j : Int} (r : Rps K F H vs [.int j]) : vs = [.int j] := by
  cases r with
  | cons r r' => cases r; cases r'; rfl
theorem rps_int2 {K : PySem.W.Frag} {vs : List V} {i j : Int} (r : Rps K F H vs [.int i, .int j]) : vs = [.int i, .int j] := by
  cases r with
  | cons r r' => cases r; rw [rps_int1 r']
theorem di_rng1 {m : Mi (List D)} (hg : Gl X "range") (hm : X.mg "range" = none) (ha : DA X W p G [a] m) (hs : starEach [a] X.env = [(false, eval a X.env)] := by rfl) : DI X W (p && true) G tg (.Call (.Name "range" q) [a] [] pos) (iRng m) := by
  obtain ⟨t, pe, l⟩ := ha
  refine ⟨_, pi_range1 hg hm pe hs, fun F H A σ ρ R wf en hp => ?_⟩
  refine l.use wf en hp fun ds ρ1 xs H1 F1 A1 s1 wf1 en1 r1 _ hp => ?_
  obtain ⟨z, e, hp⟩ := hp.lift
  have l1 := r1.1.length
  have l2 := r1.2
  unfold rngOf at e
  split at e
  · split at e
    · rename_i hb
      cases e
      have := rps_int1 r1.1
      subst this
      obtain ⟨b1, b2⟩ := big_iff hb
      exact ⟨_, rfl, b1, b2, hp.fin0 wf1 en1 itd_rng⟩
    · cases e
  · simp [l2] at l1
  · cases e
theorem di_rng2 {m : Mi (List D)} (hg : Gl X "range") (hm : X.mg "range" = none) (ha : DA X W p G [a, b] m) (hs : starEach [a, b] X.env = [(false, eval a X.env), (false, eval b X.env)] := by rfl) (hs2 : starEach [b] X.env = [(false, eval b X.env)] := by rfl) : DI X W (p && true) G tg (.Call (.Name "range" q) [a, b] [] pos) (iRng m) := by
  obtain ⟨t, pe, l⟩ := ha
  refine ⟨_, pi_range2 hg hm pe hs hs2, fun F H A σ ρ R wf en hp => ?_⟩
  refine l.use wf en hp fun ds ρ1 xs H1 F1 A1 s1 wf1 en1 r1 _ hp => ?_
  obtain ⟨z, e, hp⟩ := hp.lift
  have l1 := r1.1.length
  have l2 := r1.2
  unfold rngOf at e
  split at e
  · simp [l2] at l1
  · split at e
    · rename_i hb
      cases e
      have := rps_int2 r1.1
      subst this
      obtain ⟨h1, h2⟩ := Bool.and_eq_true_iff.mp hb
      obtain ⟨b1, b2⟩ := big_iff h1
      obtain ⟨b3, b4⟩ := big_iff h2
      exact ⟨_, _, rfl, ⟨b1, b2, b3, b4⟩, hp.fin0 wf1 en1 itd_rng⟩
    · cases e
  · cases e

/-! ### for -/
def forL (mt : Mt) (body : Ms) : List D → Ms
  | [] => ret .nx
  | d :: ds => fun ρ => match mt d ρ with
    | none => .bad
    | some ρ1 => match body ρ1 with
      | .ok .nx ρ2 => forL mt body ds ρ2
      | .ok .ct ρ2 => forL mt body ds ρ2
      | .ok .bk ρ2 => .ok .nx ρ2
      | .ok (.rt d) ρ2 => .ok (.rt d) ρ2
      | .exc x ρ2 => .exc x ρ2
      | .bad => .bad
def sFor (mi : Mi (List D)) (mt : Mt) (body : Ms) : Ms := bnd mi fun ds => forL mt body ds
abbrev SC.loop (C : SC) (Gh : List Sh) : SC := { C with Gb := Gh, Gc := Gh }
theorem ds_for {mi : Mi (List D)} {mt : Mt} {mb : Ms} {ws : List Nat} {body : List Stmt} (ps : PassesOwn (model X.prog X.w) X.A X.env X.xe) (hc : X.calm = true) (hi : DI X W p G tg e mi) (ht : DTg X Gh tg mt G2 ws) (hb : DSs X W (C.loop Gh) G2 body mb Gh) (w0 : Wk G Gh) (wx : Wk G C.Gx)
    (hs : ∀ x, foldedSetIterable e X.env x = pure x := by intro _; rfl) : DS X W C G (.For tg e body [] pos) (sFor mi mt mb) Gh := by
  obtain ⟨wi, pi, li⟩ := hi
  obtain ⟨tt, pt, lt⟩ := ht
  obtain ⟨tb, pb, lb⟩ := hb
  refine ⟨_, ps_for ps hc pi pt pb hs, fun F H A σ ρ E wf en hp => ?_⟩
  refine li.useS wf en wx hp fun ds ρ1 J H1 F1 A1 wf1 en1 itd hp => ?_
  refine ⟨fun i m σ' H' => m = ds.length - i ∧ ∃ F' A' ρ', Stp F1 H1 A1 F' H' A' ∧ Wf F' H' A' ∧ EnvR X.K F' H' Gh σ' ρ' A' ∧ PgS X W C Gh F' H' A' (forL mt mb (ds.drop i) ρ') E, ?_, ?_⟩
  · obtain ⟨A2, en2, sb⟩ := en1.weak w0
    exact ⟨_, rfl, F1, A2, ρ1, Stp.sub .refl sb, wf1.sub sb, en2, PgS.after (Stp.sub .refl sb) hp⟩
  · rintro i m σ' H' ⟨rfl, F', A', ρ', s1, wf', en', hp'⟩
    obtain ⟨stop, go⟩ := itd F' H' (s1.fut wf1) wf'.f i
    by_cases hi : i < ds.length
    · have e0 : ds[i]? = some ds[i] := List.getElem?_eq_getElem hi
      obtain ⟨g, yl⟩ := go _ e0
      rw [List.drop_eq_getElem_cons hi] at hp'
      unfold forL at hp'
      refine .inr ⟨g, fun σ' H' => ∃ F' A' ρ', Stp F1 H1 A1 F' H' A' ∧ Wf F' H' A' ∧ EnvR X.K F' H' Gh σ' ρ' A' ∧ PgS X W C Gh F' H' A' (forL mt mb (ds.drop (i + 1)) ρ') E, fun σ2 H2 h => ⟨ds.length - (i + 1), by omega, rfl, h⟩, fun x H2 y => ?_⟩
      obtain ⟨F2, s2, rx⟩ := yl x H2 y
      have wf2 := s2.wf wf'
      have en2 := en'.mono (s2.stay wf'.a)
      cases e1 : mt ds[i] ρ' with
      | none => simp only [e1] at hp'; exact hp'.elim
      | some ρ2 =>
        simp only [e1] at hp'
        refine lt F2 H2 A' σ' ρ' x ds[i] ρ2 _ wf2 en2 rx e1 fun σ3 H3 F3 A3 s3 wf3 en3 _ => ?_
        have s13 : Stp F1 H1 A1 F3 H3 A3 := (s1.trans s2.stp).trans s3
        have hp3 := PgS.after (s2.stp.trans s3) hp'
        refine lb F3 H3 A3 σ3 ρ2 _ wf3 en3 ?_
        cases e2 : mb ρ2 with
        | bad => simp only [e2] at hp3; exact hp3
        | exc x ρ3 => simp only [e2] at hp3; exact hp3
        | ok c ρ3 =>
          cases c with
          | nx => simp only [e2] at hp3; exact fun σ4 H4 F4 A4 s4 wf4 en4 => ⟨F4, A4, ρ3, s13.trans s4, wf4, en4, PgS.after s4 hp3⟩
          | ct => simp only [e2] at hp3; exact fun σ4 H4 F4 A4 s4 wf4 en4 => ⟨F4, A4, ρ3, s13.trans s4, wf4, en4, PgS.after s4 hp3⟩
          | bk => simp only [e2] at hp3; exact hp3
          | rt d => simp only [e2] at hp3; exact hp3
    · refine .inl ⟨stop (by omega), ?_⟩
      rw [List.drop_eq_nil_of_le (by omega)] at hp'
      exact hp' σ' H' F' A' .refl wf' en'

/-! ### while: by a bound on its turns -/
def whL (c : Mi Bool) (body : Ms) : Nat → Ms
  | 0 => fun _ => .bad
  | n + 1 => fun ρ => match c ρ with
    | .ok true ρ1 => (match body ρ1 with
      | .ok .nx ρ2 => whL c body n ρ2
      | .ok .ct ρ2 => whL c body n ρ2
      | .ok .bk ρ2 => .ok .nx ρ2
      | .ok (.rt d) ρ2 => .ok (.rt d) ρ2
      | .exc x ρ2 => .exc x ρ2
      | .bad => .bad)
    | .ok false ρ1 => .ok .nx ρ1
    | .exc x ρ1 => .exc x ρ1
    | .bad => .bad
/-- fuel: how many turns at most, by the slots at the start -/
def sWh (fuel : Env → Nat) (c : Mi Bool) (body : Ms) : Ms := fun ρ => whL c body (fuel ρ) ρ
theorem ds_while {mc : Mi Bool} {mb : Ms} {fuel : Env → Nat} {body : List Stmt} (ps : PassesOwn (model X.prog X.w) X.A X.env X.xe) (hc : DT X W p Gh c mc) (hb : DSs X W (C.loop Gh) Gh body mb Gh) (w0 : Wk G Gh) (wx : Wk Gh C.Gx) : DS X W C G (.While c body [] pos) (sWh fuel mc mb) Gh := by
  obtain ⟨tc, pc, lc⟩ := hc
  obtain ⟨tb, pb, lb⟩ := hb
  refine ⟨_, ps_while ps pc pb, fun F H A σ ρ E wf en hp => ?_⟩
  refine ⟨fun m σ' H' => ∃ F' A' ρ', Stp F H A F' H' A' ∧ Wf F' H' A' ∧ EnvR X.K F' H' Gh σ' ρ' A' ∧ PgS X W C Gh F' H' A' (whL mc mb m ρ') E, ?_, ?_⟩
  · obtain ⟨A2, en2, sb⟩ := en.weak w0
    exact ⟨fuel ρ, F, A2, ρ, Stp.sub .refl sb, wf.sub sb, en2, PgS.after (Stp.sub .refl sb) hp⟩
  · rintro m σ1 H1 ⟨F1, A1, ρ1, s1, wf1, en1, hp1⟩
    cases m with
    | zero => exact hp1.elim
    | succ m =>
      unfold whL at hp1
      refine lc F1 H1 A1 σ1 ρ1 _ wf1 en1 ?_
      cases e : mc ρ1 with
      | bad => simp only [e] at hp1; exact hp1
      | exc x ρ2 =>
        simp only [e] at hp1
        intro cls dd H' F' A' st wf' en' r pp
        obtain ⟨A2, en2, sb⟩ := en'.weak wx
        exact hp1 cls dd σ1 H' F' A2 (st.sub sb) (wf'.sub sb) en2 r
      | ok k ρ2 =>
        intro k' H2 F2 A2 s2 wf2 en2 r pp
        cases r
        cases k with
        | false =>
          simp only [e] at hp1
          exact iteF (hp1 σ1 H2 F2 A2 s2 wf2 en2)
        | true =>
          simp only [e] at hp1
          refine iteT ⟨fun σ' H' => ∃ F' A' ρ', Stp F H A F' H' A' ∧ Wf F' H' A' ∧ EnvR X.K F' H' Gh σ' ρ' A' ∧ PgS X W C Gh F' H' A' (whL mc mb m ρ') E, fun σ' H' h => ⟨m, Nat.lt_succ_self m, h⟩, ?_⟩
          have s12 := s1.trans s2
          have hp3 := PgS.after s2 hp1
          refine lb F2 H2 A2 σ1 ρ2 _ wf2 en2 ?_
          cases e2 : mb ρ2 with
          | bad => simp only [e2] at hp3; exact hp3
          | exc x ρ3 => simp only [e2] at hp3; exact hp3
          | ok c ρ3 =>
            cases c with
            | nx => simp only [e2] at hp3; exact fun σ4 H4 F4 A4 s4 wf4 en4 => ⟨F4, A4, ρ3, s12.trans s4, wf4, en4, PgS.after s4 hp3⟩
            | ct => simp only [e2] at hp3; exact fun σ4 H4 F4 A4 s4 wf4 en4 => ⟨F4, A4, ρ3, s12.trans s4, wf4, en4, PgS.after s4 hp3⟩
            | bk => simp only [e2] at hp3; exact hp3
            | rt d => simp only [e2] at hp3; exact hp3
end
end DM
/-! DmK: list comprehensions. -/
namespace DM
open PySem PySem.Spec PyProof.Rows L2

/-! ### a block's own slots -/
def wipeE : List Nat → Env → Env
  | [], ρ => ρ
  | v :: vs, ρ => (wipeE vs ρ).set v none
def wipeG : List Nat → List Sh → List Sh
  | [], G => G
  | v :: vs, G => (wipeG vs G).set v .any
def restE : List Nat → Env → Env → Env
  | [], _, ρh => ρh
  | v :: vs, ρ, ρh => restE vs ρ (ρh.set v (ρ.getD v none))
section
variable {K : PySem.W.Frag} {F F' : FS} {H H' : Hp}
theorem EnvR.out1 : ∀ {G : List Sh} {σ : L2.St} {ρ : Env} {A} {i : Nat} {s : Sh}, EnvR K F H G σ ρ A → ∃ A', EnvR K F H (G.set i s) (σ.set i none) (ρ.set i none) A' ∧ A'.Sublist A
  | [], [], [], A, i, s, h => ⟨A, by simpa using h, List.Sublist.refl _⟩
  | g :: G, x :: σ, none :: ρ, A, 0, s, h => ⟨A, by simpa only [List.set, EnvR] using h, List.Sublist.refl _⟩
  | g :: G, x :: σ, none :: ρ, A, i + 1, s, h => by
    obtain ⟨A', a, b⟩ := EnvR.out1 (i := i) (s := s) (show EnvR K F H G σ ρ A from by simpa only [EnvR] using h)
    exact ⟨A', by simpa only [List.set, EnvR] using a, b⟩
  | g :: G, some v :: σ, some d :: ρ, A, 0, s, ⟨A1, A2, h1, h2, e⟩ => ⟨A2, by simpa only [List.set, EnvR] using h2, by rw [e]; exact List.sublist_append_right A1 A2⟩
  | g :: G, some v :: σ, some d :: ρ, A, i + 1, s, ⟨A1, A2, h1, h2, e⟩ => by
    obtain ⟨A', a, b⟩ := EnvR.out1 (i := i) (s := s) h2
    exact ⟨A1 ++ A', ⟨A1, A', h1, a, rfl⟩, by rw [e]; exact List.Sublist.append_left b A1⟩
  | [], [], _ :: _, _, _, _, h => by simp [EnvR] at h
  | [], _ :: _, _, _, _, _, h => by simp [EnvR] at h
  | _ :: _, [], _, _, _, _, h => by simp [EnvR] at h
  | _ :: _, _ :: _, [], _, _, _, h => by simp [EnvR] at h
  | _ :: _, none :: _, some _ :: _, _, _, _, h => by simp [EnvR] at h
theorem EnvR.wipe {G : List Sh} {σ : L2.St} {ρ : Env} {A} (h : EnvR K F H G σ ρ A) : ∀ own : List Nat, ∃ A', EnvR K F H (wipeG own G) (L2.wipe σ own) (wipeE own ρ) A' ∧ A'.Sublist A
  | [] => ⟨A, h, List.Sublist.refl _⟩
  | v :: vs => by
    obtain ⟨A1, h1, s1⟩ := EnvR.wipe h vs
    obtain ⟨A2, h2, s2⟩ := h1.out1 (i := v) (s := .any)
    exact ⟨A2, h2, s2.trans s1⟩
theorem EnvR.slot : ∀ {G : List Sh} {σ : L2.St} {ρ : Env} {A} {i : Nat} {s : Sh} {x : Option V}, EnvR K F H (G.set i .any) (σ.set i none) ρ A → ρ[i]? = some none → G[i]? = some s → σ[i]? = some x → EnvR K F H G σ ρ A
  | [], _, _, _, i, s, x, h, e, g, _ => by simp at g
  | g :: G, y :: σ, none :: ρ, A, 0, s, x, h, e, _, _ => by simpa only [List.set, EnvR] using h
  | g :: G, y :: σ, some d :: ρ, A, 0, s, x, h, e, _, _ => by simp at e
  | g :: G, y :: σ, none :: ρ, A, i + 1, s, x, h, e, e2, e3 => by
    have h' : EnvR K F H (G.set i .any) (σ.set i none) ρ A := by simpa only [List.set, EnvR] using h
    have := EnvR.slot h' (by simpa using e) (by simpa using e2) (by simpa using e3)
    simpa only [EnvR] using this
  | g :: G, some v :: σ, some d :: ρ, A, i + 1, s, x, ⟨A1, A2, h1, h2, eA⟩, e, e2, e3 => ⟨A1, A2, h1, EnvR.slot h2 (by simpa using e) (by simpa using e2) (by simpa using e3), eA⟩
  | _ :: _, [], _, _, _, _, _, h, _, _, e3 => by simp at e3
  | _ :: _, _ :: _, [], _, _, _, _, h, e, _, _ => by simp at e
  | _ :: _, none :: _, some _ :: _, _, i + 1, _, _, h, _, _, _ => by simp [EnvR] at h
/-- the slots as they were ahead of the block -/
theorem EnvR.unwipe {G : List Sh} {σ : L2.St} {ρ : Env} : ∀ {own : List Nat} {ρh : Env} {A}, own.Nodup → (∀ i ∈ own, ∃ s x, G[i]? = some s ∧ σ[i]? = some x) → (∀ i ∈ own, ρh[i]? = some none) →
    (∀ i ∈ own, ∀ d, ρ[i]? = some (some d) → ∃ s v, G[i]? = some s ∧ σ[i]? = some (some v) ∧ Ow K F H s v d []) → EnvR K F H (wipeG own G) (L2.wipe σ own) ρh A → ∃ A', EnvR K F H G σ (restE own ρ ρh) A' ∧ A'.Perm A
  | [], ρh, A, _, _, _, _, h => ⟨A, h, List.Perm.refl _⟩
  | v :: vs, ρh, A, nd, hx, hn, hv, h => by
    obtain ⟨hvn, nd'⟩ := List.nodup_cons.mp nd
    obtain ⟨s, x, g1, g2⟩ := hx v List.mem_cons_self
    have wg : ∀ {vs : List Nat}, v ∉ vs → (wipeG vs G)[v]? = G[v]? := fun {vs} hv => by
      induction vs with
      | nil => rfl
      | cons a r ih =>
        unfold wipeG
        rw [List.getElem?_set_ne (fun z => hv (by rw [z]; exact List.mem_cons_self))]
        exact ih fun z => hv (List.mem_cons_of_mem _ z)
    have ws : ∀ {vs : List Nat}, v ∉ vs → (L2.wipe σ vs)[v]? = σ[v]? := fun {vs} hv => by
      induction vs with
      | nil => rfl
      | cons a r ih =>
        unfold L2.wipe
        rw [List.getElem?_set_ne (fun z => hv (by rw [z]; exact List.mem_cons_self))]
        exact ih fun z => hv (List.mem_cons_of_mem _ z)
    have h1 : EnvR K F H (wipeG vs G) (L2.wipe σ vs) ρh A := EnvR.slot (i := v) h (hn v List.mem_cons_self) ((wg hvn).trans g1) ((ws hvn).trans g2)
    have hl : v < ρh.length := (List.getElem?_eq_some_iff.mp (hn v List.mem_cons_self)).1
    have again : ∀ {y A1}, EnvR K F H (wipeG vs G) (L2.wipe σ vs) (ρh.set v y) A1 → A1.Perm A → ∃ A', EnvR K F H G σ (restE vs ρ (ρh.set v y)) A' ∧ A'.Perm A := fun {y A1} hh pm => by
      obtain ⟨A', h3, p3⟩ := EnvR.unwipe (own := vs) nd' (fun i hi => hx i (List.mem_cons_of_mem _ hi)) (fun i hi => by
        rw [List.getElem?_set_ne (fun z => hvn (by rw [z]; exact hi))]
        exact hn i (List.mem_cons_of_mem _ hi)) (fun i hi => hv i (List.mem_cons_of_mem _ hi)) hh
      exact ⟨A', h3, p3.trans pm⟩
    unfold restE
    cases e : ρ[v]? with
    | none =>
      rw [List.getD_eq_getElem?_getD, e]
      refine again (A1 := A) ?_ (List.Perm.refl _)
      have : ρh.set v none = ρh := by
        apply List.ext_getElem?
        intro j
        by_cases hj : v = j
        · subst hj; rw [List.getElem?_set_self hl, hn v List.mem_cons_self]
        · rw [List.getElem?_set_ne hj]
      show EnvR K F H _ _ (ρh.set v none) A
      rw [this]; exact h1
    | some y =>
      rw [List.getD_eq_getElem?_getD, e]
      cases y with
      | none =>
        refine again (A1 := A) ?_ (List.Perm.refl _)
        have : ρh.set v none = ρh := by
          apply List.ext_getElem?
          intro j
          by_cases hj : v = j
          · subst hj; rw [List.getElem?_set_self hl, hn v List.mem_cons_self]
          · rw [List.getElem?_set_ne hj]
        show EnvR K F H _ _ (ρh.set v none) A
        rw [this]; exact h1
      | some d =>
        obtain ⟨s', w, g3, g4, o⟩ := hv v List.mem_cons_self d e
        obtain ⟨A1, h2, p2⟩ := h1.put (i := v) ((wg hvn).trans g3) (hn v List.mem_cons_self) ((ws hvn).trans g4) o
        exact again h2 p2
theorem wipeE_none : ∀ {own : List Nat} {ρ : Env} {i : Nat}, i ∈ own → i < ρ.length → (wipeE own ρ)[i]? = some none
  | v :: vs, ρ, i, h, hl => by
    have len : ∀ (vs : List Nat), (wipeE vs ρ).length = ρ.length := fun vs => by
      induction vs with
      | nil => rfl
      | cons a r ih => unfold wipeE; rw [List.length_set]; exact ih
    unfold wipeE
    by_cases e : v = i
    · subst e
      rw [List.getElem?_set_self (by rw [len]; exact hl)]
    · rw [List.getElem?_set_ne e]
      rcases List.mem_cons.mp h with z | z
      · exact absurd z.symm e
      · exact wipeE_none z hl
theorem wipe_eq {σ σ' : L2.St} : ∀ {own : List Nat}, (∀ j, j ∉ own → σ'[j]? = σ[j]?) → σ'.length = σ.length → L2.wipe σ' own = L2.wipe σ own := by
  intro own h hl
  have key : ∀ (τ : L2.St) (vs : List Nat) (j : Nat), (L2.wipe τ vs)[j]? = if j ∈ vs ∧ j < τ.length then some none else τ[j]? := fun τ vs j => by
    induction vs with
    | nil => simp [L2.wipe]
    | cons a r ih =>
      unfold L2.wipe
      by_cases e : a = j
      · subst e
        by_cases hj : a < τ.length
        · rw [List.getElem?_set_self (by rw [L2.wipe_length]; exact hj)]
          simp [hj]
        · rw [List.getElem?_eq_none (by rw [List.length_set, L2.wipe_length]; omega)]
          simp [hj]
      · rw [List.getElem?_set_ne e, ih]
        by_cases hr : j ∈ r
        · simp [hr]
        · simp [hr, Ne.symm e]
  apply List.ext_getElem?
  intro j
  rw [key, key, hl]
  by_cases hj : j ∈ own
  · by_cases hz : j < σ.length
    · simp [hj, hz]
    · simp [hj, hz]
      omega
  · simp [hj]
    exact h j hj
end

/-! ### the mirror -/
def lcL (own : List Nat) (ρ0 : Env) (mt : Mt) (mc : Mi Bool) (me : Mi D) : List D → List D → Env → Out D
  | acc, [], ρ => .ok (.lst acc) (restE own ρ0 ρ)
  | acc, d :: ds, ρ => match mt d ρ with
    | none => .bad
    | some ρ1 => match mc ρ1 with
      | .ok true ρ2 => (match me ρ2 with
        | .ok x ρ3 => lcL own ρ0 mt mc me (acc ++ [x]) ds (wipeE own ρ3)
        | _ => .bad)
      | .ok false ρ2 => lcL own ρ0 mt mc me acc ds (wipeE own ρ2)
      | _ => .bad
def eLc (own : List Nat) (mi : Mi (List D)) (mt : Mt) (mc : Mi Bool) (me : Mi D) : Mi D := bnd mi fun ds ρ => if ds.length ≤ 16777216 then lcL own ρ mt mc me [] ds (wipeE own ρ) else .bad
def tYesM : Mi Bool := ret true

abbrev W0 : WX := fun _ _ _ _ => False
/-- the tests of a block -/
def DTsB (X : Cx) (p : Bool) (G : List Sh) (es : List Expr) (m : Mi Bool) : Prop := ∃ t, PTs X es t ∧ Tl X W0 p RB G t m
section
variable {X : Cx} {W : WX} {C : SC} {p p1 p2 p3 : Bool} {G G1 G2 G' Gh : List Sh} {e a b c tg elt iter : Expr} {es ifs : List Expr} {pos q : Pos} {F F1 : FS} {H H1 : Hp} {A A1 : List Addr} {σ : L2.St} {ρ ρ1 : Env} {s : Sh} {st : Stmt} {sts rest : List Stmt} {scope : Scope} {own : List (Str × Nat)}
theorem dtb_nil : DTsB X true G [] tYesM := ⟨_, pts_nil, fun F H A σ ρ Q wf en hp => hp.fin0 wf en rfl⟩
theorem dtb_one {m : Mi Bool} (h : DT X W0 p G e m) : DTsB X p G [e] m := by
  obtain ⟨t, pe, l⟩ := h
  exact ⟨t, pts_one pe, l⟩
/-- all contexts of the block -/
abbrev AllB (X : Cx) (scope : Scope) (P : Cx → Prop) : Prop := ∀ (s : Shared) (H : Hp) (C : Addr) (cl : List (Str × Addr)) (fp : List Addr), P (X.blk s H scope (compEnvC scope cl C X.env) fp)
theorem ne_f {F : FS} {a D : Addr} (f : F a) (n : ¬ F D) : a ≠ D := fun z => by subst z; exact n f
theorem ne_a {A : List Addr} {a D : Addr} (f : a ∈ A) (n : D ∉ A) : a ≠ D := fun z => by subst z; exact n f
theorem keepD {F F' : FS} {H H' : Hp} {A A' : List Addr} {D : Addr} {o : HO} (s : Stp F H A F' H' A') (h : H D = some o) (n : D ∉ A) (f : ¬ F D) : H' D = some o ∧ D ∉ A' ∧ ¬ F' D := by
  refine ⟨s.keep D o h n, fun z => ?_, fun z => ?_⟩
  · rcases s.own D z with q | q
    · exact n q
    · rw [h] at q; cases q
  · rcases s.fn D z with q | q | q
    · exact f q
    · exact n q
    · rw [h] at q; cases q
theorem lc_tl {wi : TI} {g : TG} {tt : TT} {te : TE} {mi : Mi (List D)} {mt : Mt} {mc : Mi Bool} {me : Mi D} {ws : List Nat} (li : Tl X W p (ItD X.K) G wi mi) (lg : TlG X (wipeG (own.map (·.2)) G) g mt G2 ws) (lt : Tl X W0 p2 RB G2 tt mc) (le : Tl X W0 p3 (Rp X.K) G2 te me)
    (hw : ∀ j ∈ ws, j ∈ own.map (·.2)) (hG : wipeG (own.map (·.2)) G2 = wipeG (own.map (·.2)) G) (hnd : (own.map (·.2)).Nodup) (hown : ∀ i ∈ own.map (·.2), G[i]? = some .fz ∨ G[i]? = some .any) :
    TlO X W false (.lst .fz) G (tLc wi g tt te (own.map (·.2))) (eLc (own.map (·.2)) mi mt mc me) := by
  intro F H A σ ρ Q wf en hp
  unfold eLc at hp
  refine li.useO (p2 := false) wf en (by rw [Bool.and_false]; exact hp) fun ds ρ1 J H1 F1 A1 s1 wf1 en1 itd _ hp => ?_
  intro D hD
  split at hp
  rotate_left
  · exact hp.elim
  rename_i hlen
  generalize hov : own.map (·.2) = ov at *
  have l1 := en1.len
  have keepOwn : ∀ {F' H'}, Fut F1 H1 F' H' → ∀ i ∈ ov, ∀ d, ρ1[i]? = some (some d) → ∃ s v, G[i]? = some s ∧ σ[i]? = some (some v) ∧ Ow X.K F' H' s v d [] := fun {F' H'} m i hi d hd => by
    rcases hown i hi with h | h
    · obtain ⟨v, B, e1, o, _⟩ := en1.get h hd
      exact ⟨_, v, h, e1, o.1.mono m, rfl⟩
    · obtain ⟨v, B, e1, o, _⟩ := en1.get h hd
      exact ⟨_, v, h, e1, rfl⟩
  have hlt : ∀ i ∈ ov, i < G.length := fun i hi => by
    rcases hown i hi with h | h <;> exact (List.getElem?_eq_some_iff.mp h).1
  have hx : ∀ i ∈ ov, ∃ s x, G[i]? = some s ∧ σ[i]? = some x := fun i hi => by
    have h := hlt i hi
    exact ⟨_, _, List.getElem?_eq_getElem h, List.getElem?_eq_getElem (by omega)⟩
  have dA : D ∉ A1 := fun z => wf1.a D z hD
  have dF : ¬ F1 D := fun z => wf1.f D z hD
  refine ⟨fun i m H' => m = ds.length - i ∧ ∃ F' A' ρ' acc accd, Stp F1 H1 A1 F' H' (D :: A') ∧ Wf F' H' A' ∧ H' D = some (.lst acc) ∧ Rps X.K F' H' acc accd ∧ D ∉ A' ∧ ¬ F' D ∧ EnvR X.K F' H' (wipeG ov G) (wipe σ ov) ρ' A' ∧ (∀ i ∈ ov, ρ'[i]? = some none) ∧
    accd.length + (ds.drop i).length ≤ 16777216 ∧ PgO X W false (.lst .fz) G σ F1 H1 A1 ρ1 (lcL ov ρ1 mt mc me accd (ds.drop i) ρ') Q, ⟨_, rfl, ?_⟩, ?_⟩
  · obtain ⟨A2, en2, sb⟩ := en1.wipe ov
    have ps : Pst F1 H1 F1 (upd H1 D (.lst [])) := Pst.lay0 hD wf1.f
    refine ⟨F1, A2, wipeE ov ρ1, [], [], ⟨fun _ h => h, fun b o e _ => ps.keep b o e, fun b hb => ?_, fun b h => .inl h⟩, (ps.wf wf1).sub sb, upd_same, .nil, fun z => dA (sb.subset z), dF, en2.mono (ps.stay fun a ha => wf1.a a (sb.subset ha)), fun i hi => wipeE_none hi (by have := hlt i hi; omega), by simpa using hlen, by simpa using hp⟩
    rcases List.mem_cons.mp hb with z | z
    · rw [z]; exact .inr hD
    · exact .inl (sb.subset z)
  · rintro i m H' ⟨rfl, F', A', ρ', acc, accd, sp, wf', hD', racc, nA, nF, en', hno, hsz, hp'⟩
    have dn : H' D ≠ none := by rw [hD']; exact fun z => nomatch z
    have fut1 : Fut F1 H1 F' H' := sp.fut wf1
    obtain ⟨stop, go⟩ := itd F' H' fut1 wf'.f i
    by_cases hi : i < ds.length
    · have e0 : ds[i]? = some ds[i] := List.getElem?_eq_getElem hi
      obtain ⟨gg, yl⟩ := go _ e0
      rw [List.drop_eq_getElem_cons hi] at hp' hsz
      unfold lcL at hp'
      refine .inr ⟨gg, fun H' => ∃ F' A' ρ' acc accd, Stp F1 H1 A1 F' H' (D :: A') ∧ Wf F' H' A' ∧ H' D = some (.lst acc) ∧ Rps X.K F' H' acc accd ∧ D ∉ A' ∧ ¬ F' D ∧ EnvR X.K F' H' (wipeG ov G) (wipe σ ov) ρ' A' ∧ (∀ i ∈ ov, ρ'[i]? = some none) ∧
        accd.length + (ds.drop (i + 1)).length ≤ 16777216 ∧ PgO X W false (.lst .fz) G σ F1 H1 A1 ρ1 (lcL ov ρ1 mt mc me accd (ds.drop (i + 1)) ρ') Q, fun H2 h => ⟨ds.length - (i + 1), by omega, rfl, h⟩, fun x H2 y => ?_⟩
      obtain ⟨F2, s2, rx⟩ := yl x H2 y
      have wf2 := s2.wf wf'
      have en2 := en'.mono (s2.stay wf'.a)
      obtain ⟨dD2, _, nF2⟩ := keepD (A := A') (A' := A') s2.stp hD' nA nF
      cases e1 : mt ds[i] ρ' with
      | none => simp only [e1] at hp'; exact hp'.elim
      | some ρ2 =>
        simp only [e1] at hp'
        refine lg F2 H2 A' (wipe σ ov) ρ' x ds[i] ρ2 _ wf2 en2 rx e1 fun σ3 H3 F3 A3 s3 wf3 en3 hj => ?_
        obtain ⟨dD3, nA3, nF3⟩ := keepD s3 dD2 nA nF2
        have l2 := en2.len
        have l3 := en3.len
        have hlG : (wipeG ov G2).length = (wipeG ov G).length := by rw [hG]
        have wgl : ∀ (vs : List Nat) (G : List Sh), (wipeG vs G).length = G.length := fun vs G => by
          induction vs with
          | nil => rfl
          | cons a r ih => unfold wipeG; rw [List.length_set]; exact ih
        rw [wgl, wgl] at hlG
        rw [wgl] at l2
        have hwp : wipe σ3 ov = wipe σ ov := by
          have h1 : wipe σ3 ov = wipe (wipe σ ov) ov := wipe_eq (fun j hj' => hj j fun z => hj' (hw j z)) (by omega)
          have h2 : wipe (wipe σ ov) ov = wipe σ ov := by
            refine wipe_eq (fun j hj' => ?_) (wipe_length _ _)
            have : ∀ (vs : List Nat), j ∉ vs → (wipe σ vs)[j]? = σ[j]? := fun vs => by
              induction vs with
              | nil => exact fun _ => rfl
              | cons a r ih =>
                intro hv
                unfold wipe
                rw [List.getElem?_set_ne (fun z => hv (by rw [z]; exact List.mem_cons_self))]
                exact ih fun z => hv (List.mem_cons_of_mem _ z)
            exact this ov hj'
          rw [h1, h2]
        refine ⟨hwp, ?_⟩
        have st3 : Stp F1 H1 A1 F3 H3 (D :: A3) := by
          have t : Stp F' H' A' F3 H3 A3 := s2.stp.trans s3
          refine ⟨fun a h => t.f a (sp.f a h), fun b o e n => ?_, fun b hb => ?_, fun b hb => ?_⟩
          · have h1 := sp.keep b o e n
            refine t.keep b o h1 fun z => ?_
            rcases sp.own b (List.mem_cons_of_mem _ z) with q | q
            · exact n q
            · rw [e] at q; cases q
          · rcases List.mem_cons.mp hb with z | z
            · exact sp.own b (by rw [z]; exact List.mem_cons_self)
            · rcases t.own b z with q | q
              · exact sp.own b (List.mem_cons_of_mem _ q)
              · cases e : H1 b with
                | none => exact .inr rfl
                | some o =>
                  by_cases hA : b ∈ A1
                  · exact .inl hA
                  · rw [sp.keep b o e hA] at q; cases q
          · rcases t.fn b hb with q | q | q
            · exact sp.fn b q
            · exact .inr (sp.own b (List.mem_cons_of_mem _ q))
            · cases e : H1 b with
              | none => exact .inr (.inr rfl)
              | some o =>
                by_cases hA : b ∈ A1
                · exact .inr (.inl hA)
                · rw [sp.keep b o e hA] at q; cases q
        have tr : ∀ {F3 H3 A3 F4 H4 A4}, Stp F1 H1 A1 F3 H3 (D :: A3) → D ∉ A3 → Stp F3 H3 A3 F4 H4 A4 → Stp F1 H1 A1 F4 H4 (D :: A4) := fun {F3 H3 A3 F4 H4 A4} sp n t => by
          refine ⟨fun a h => t.f a (sp.f a h), fun b o e n => ?_, fun b hb => ?_, fun b hb => ?_⟩
          · have h1 := sp.keep b o e n
            refine t.keep b o h1 fun z => ?_
            rcases sp.own b (List.mem_cons_of_mem _ z) with q | q
            · exact n q
            · rw [e] at q; cases q
          · rcases List.mem_cons.mp hb with z | z
            · exact sp.own b (by rw [z]; exact List.mem_cons_self)
            · rcases t.own b z with q | q
              · exact sp.own b (List.mem_cons_of_mem _ q)
              · cases e : H1 b with
                | none => exact .inr rfl
                | some o =>
                  by_cases hA : b ∈ A1
                  · exact .inl hA
                  · rw [sp.keep b o e hA] at q; cases q
          · rcases t.fn b hb with q | q | q
            · exact sp.fn b q
            · exact .inr (sp.own b (List.mem_cons_of_mem _ q))
            · cases e : H1 b with
              | none => exact .inr (.inr rfl)
              | some o =>
                by_cases hA : b ∈ A1
                · exact .inr (.inl hA)
                · rw [sp.keep b o e hA] at q; cases q
        have futA : Fut F' H' F3 H3 := (s2.stp.trans s3).fut wf'
        have again : ∀ {F4 H4 A4 ρ4}, EnvR X.K F4 H4 G2 σ3 ρ4 A4 → ∃ A5, EnvR X.K F4 H4 (wipeG ov G) (wipe σ ov) (wipeE ov ρ4) A5 ∧ A5.Sublist A4 ∧ ∀ i ∈ ov, (wipeE ov ρ4)[i]? = some none := fun {F4 H4 A4 ρ4} en4 => by
          obtain ⟨A5, en5, sb⟩ := en4.wipe ov
          rw [hG, hwp] at en5
          have l4 := en4.len
          exact ⟨A5, en5, sb, fun i hi => wipeE_none hi (by have := hlt i hi; omega)⟩
        refine lt F3 H3 A3 σ3 ρ2 _ wf3 en3 ?_
        cases e2 : mc ρ2 with
        | bad => simp only [e2] at hp'; exact hp'.elim
        | exc x ρ3 => simp only [e2] at hp'; exact hp'.elim
        | ok k ρ3 =>
          intro k' H4 F4 A4 s4 wf4 en4 rk _
          cases rk
          obtain ⟨dD4, nA4, nF4⟩ := keepD s4 dD3 nA3 nF3
          cases k with
          | false =>
            simp only [e2] at hp'
            refine iteF ?_
            obtain ⟨A5, en5, sb, nn⟩ := again en4
            have st4 := tr st3 nA3 s4
            refine ⟨F4, A5, wipeE ov ρ3, acc, accd, Stp.sub st4 (List.Sublist.cons_cons D sb), wf4.sub sb, dD4, (racc.mono futA).mono (s4.fut wf3), fun z => nA4 (sb.subset z), nF4, en5, nn, by simp at hsz ⊢; omega, hp'⟩
          | true =>
            simp only [e2] at hp'
            refine iteT ?_
            refine le F4 H4 A4 σ3 ρ3 _ wf4 en4 ?_
            cases e3 : me ρ3 with
            | bad => simp only [e3] at hp'; exact hp'.elim
            | exc x ρ4 => simp only [e3] at hp'; exact hp'.elim
            | ok z ρ4 =>
              simp only [e3] at hp'
              intro y H5 F5 A5 s5 wf5 en5 ry _
              obtain ⟨dD5, nA5, nF5⟩ := keepD s5 dD4 nA4 nF4
              have r5 := ((racc.mono futA).mono (s4.fut wf3)).mono (s5.fut wf4)
              have hl := r5.length
              refine ⟨acc, dD5, by rw [szl]; simp at hsz; omega, ?_⟩
              obtain ⟨A6, en6, sb, nn⟩ := again en5
              have st5 := tr (tr st3 nA3 s4) nA4 s5
              -- the list is written: nothing else leans on it
              have fut6 : Fut F5 H5 F5 (upd H5 D (.lst (acc ++ [y]))) := ⟨fun _ h => h, fun a xs f e => by rw [upd_ne (ne_f f nF5)]; exact e, fun a u f r => by
                rcases r with r | ⟨o, r⟩
                · exact .inl (by rw [upd_ne (ne_f f nF5)]; exact r)
                · exact .inr ⟨o, by rw [upd_ne (ne_f f nF5)]; exact r⟩⟩
              have sty : Stay F5 H5 A6 F5 (upd H5 D (.lst (acc ++ [y]))) := ⟨fut6, fun a ha => upd_ne (ne_a (sb.subset ha) nA5)⟩
              refine ⟨F5, A6, wipeE ov ρ4, acc ++ [y], accd ++ [z], ?_, ?_, upd_same, (r5.mono fut6).app (.cons (ry.mono fut6) .nil), fun z => nA5 (sb.subset z), nF5, en6.mono sty, nn, by simp at hsz ⊢; omega, hp'⟩
              · refine ⟨st5.f, fun b o e n => ?_, fun b hb => ?_, st5.fn⟩
                · have hne : b ≠ D := fun z => by subst z; rw [hD] at e; cases e
                  rw [upd_ne hne]
                  exact st5.keep b o e n
                · rcases List.mem_cons.mp hb with z | z
                  · exact st5.own b (by rw [z]; exact List.mem_cons_self)
                  · exact st5.own b (List.mem_cons_of_mem _ (sb.subset z))
              · refine ⟨fun a f => ?_, fun a ha => ?_, wf5.nd.sublist sb, fun a ha => wf5.ap a (sb.subset ha)⟩
                · rw [upd_ne (ne_f f nF5)]; exact wf5.f a f
                · rw [upd_ne (ne_a (sb.subset ha) nA5)]; exact wf5.a a (sb.subset ha)
    · refine .inl ⟨stop (by omega), ?_⟩
      rw [List.drop_eq_nil_of_le (by omega)] at hp'
      unfold lcL at hp'
      obtain ⟨A2, en2, pm⟩ := EnvR.unwipe (ρ := ρ1) hnd hx hno (keepOwn fut1) en'
      have n1 : (D :: A2).Nodup := List.nodup_cons.mpr ⟨fun z => nA (pm.mem_iff.mp z), pm.nodup_iff.mpr wf'.nd⟩
      refine hp' (.ref D) H' F' A2 [D] ⟨sp.f, sp.keep, fun b hb => ?_, sp.fn⟩ ⟨wf'.f, fun a ha => ?_, n1, fun a ha => ?_⟩ en2 ⟨D, acc, accd, [], rfl, rfl, hD', all3_of racc, rfl⟩ fun z => nomatch z
      · rcases List.mem_cons.mp hb with z | z
        · exact sp.own b (by rw [z]; exact List.mem_cons_self)
        · exact sp.own b (List.mem_cons_of_mem _ (pm.mem_iff.mp z))
      · rcases List.mem_cons.mp ha with z | z
        · rw [z]; exact dn
        · exact wf'.a a (pm.mem_iff.mp z)
      · rcases List.mem_cons.mp ha with z | z
        · rw [z]; exact nF
        · exact wf'.ap a (pm.mem_iff.mp z)
theorem PE.cut {X : Cx} {e : Expr} {t t' : TE} (h : PE X e t) (k : ∀ σ H Q, t' σ H Q → t σ H Q) : PE X e t' := ⟨fun pins s σ H Q I q => h.run pins s σ H Q I (k σ H Q q)⟩
/-- the parts of a block, one for all its contexts -/
theorem allB_tg {mt : Mt} {ws : List Nat} (h : AllB X scope fun X => DTg X G tg mt G2 ws) : ∃ g, (∀ (s : Shared) (H : Hp) (C : Addr) (cl : List (Str × Addr)) (fp : List Addr), PG (X.blk s H scope (compEnvC scope cl C X.env) fp) tg g) ∧ TlG X G g mt G2 ws := by
  refine ⟨fun v σ H Q => ∀ s H0 C cl fp, Classical.choose (h s H0 C cl fp) v σ H Q, fun s H0 C cl fp => ⟨fun pins s' σ H v u Q I r q => ?_⟩, fun F H A σ ρ v d ρ' Q wf en r e k s H0 C cl fp => ?_⟩
  · exact (Classical.choose_spec (h s H0 C cl fp)).1.run pins s' σ H v u Q I r (q s H0 C cl fp)
  · exact (Classical.choose_spec (h s H0 C cl fp)).2 F H A σ ρ v d ρ' Q wf en r e k
theorem allB_ts {m : Mi Bool} (h : AllB X scope fun X => DTsB X p G ifs m) : ∃ t, (∀ (s : Shared) (H : Hp) (C : Addr) (cl : List (Str × Addr)) (fp : List Addr), PTs (X.blk s H scope (compEnvC scope cl C X.env) fp) ifs t) ∧ Tl X W0 p RB G t m := by
  refine ⟨fun σ H Q => ∀ s H0 C cl fp, Classical.choose (h s H0 C cl fp) σ H Q, fun s H0 C cl fp => ⟨fun pins s' σ H Q I q => ?_⟩, fun F H A σ ρ Q wf en hp s H0 C cl fp => ?_⟩
  · exact (Classical.choose_spec (h s H0 C cl fp)).1.run pins s' σ H Q I (q s H0 C cl fp)
  · exact (Classical.choose_spec (h s H0 C cl fp)).2 F H A σ ρ Q wf en hp
theorem allB_e {m : Mi D} (h : AllB X scope fun X => DE X W0 p G e m) : ∃ t, (∀ (s : Shared) (H : Hp) (C : Addr) (cl : List (Str × Addr)) (fp : List Addr), PE (X.blk s H scope (compEnvC scope cl C X.env) fp) e t) ∧ Tl X W0 p (Rp X.K) G t m := by
  refine ⟨fun σ H Q => ∀ s H0 C cl fp, Classical.choose (h s H0 C cl fp) σ H Q, fun s H0 C cl fp => ⟨fun pins s' σ H Q I q => ?_⟩, fun F H A σ ρ Q wf en hp s H0 C cl fp => ?_⟩
  · exact (Classical.choose_spec (h s H0 C cl fp)).1.run pins s' σ H Q I (q s H0 C cl fp)
  · exact (Classical.choose_spec (h s H0 C cl fp)).2 F H A σ ρ Q wf en hp
/-- [elt for tg in iter if ..] -/
theorem do_lc {mi : Mi (List D)} {mt : Mt} {mc : Mi Bool} {me : Mi D} {ws : List Nat} (hc : X.calm = true) (hN : X.N.Nodup) (ok : BlkOk X.N X.env.scope scope own) (hi : DI X W p G tg iter mi)
    (hg : AllB X scope fun X => DTg X (wipeG (own.map (·.2)) G) tg mt G2 ws) (ht : AllB X scope fun X => DTsB X p2 G2 ifs mc) (he : AllB X scope fun X => DE X W0 p3 G2 elt me)
    (hw : ∀ j ∈ ws, j ∈ own.map (·.2)) (hG : wipeG (own.map (·.2)) G2 = wipeG (own.map (·.2)) G) (hnd : (own.map (·.2)).Nodup) (hown : ∀ i ∈ own.map (·.2), G[i]? = some .fz ∨ G[i]? = some .any)
    (hs : ∀ x, foldedSetIterable iter X.env x = pure x := by intro _; rfl) : DO X W false (.lst .fz) G (.ListComp elt [⟨tg, iter, ifs, 0⟩] scope pos) (eLc (own.map (·.2)) mi mt mc me) := by
  obtain ⟨wi, pi, li⟩ := hi
  obtain ⟨g, pg, lg⟩ := allB_tg hg
  obtain ⟨tt, pt, lt⟩ := allB_ts ht
  obtain ⟨te, pe, le⟩ := allB_e he
  exact ⟨_, pe_lc hc hN pi ok pg pt pe hs, lc_tl li lg lt le hw hG hnd hown⟩
/-- x = [elt for ..] on one line -/
theorem ds_setLc {i : Nat} {x : Str} {mi : Mi (List D)} {mt : Mt} {mc : Mi Bool} {me : Mi D} {ws : List Nat} {spos : Pos} (hc : X.calm = true) (hN : X.N.Nodup) (hx : X.N[i]? = some x) (hxl : X.env.scope.names.lookup x = some .local)
    (hsw : swapsWith (.ListComp elt [⟨tg, iter, ifs, 0⟩] scope pos) (some (.Name x q)) spos.line X.env = pure true) (ok : BlkOk X.N X.env.scope scope own) (hi : DI X W p G tg iter mi)
    (hg : AllB X scope fun X => DTg X (wipeG (own.map (·.2)) G) tg mt G2 ws) (ht : AllB X scope fun X => DTsB X p2 G2 ifs mc) (he : AllB X scope fun X => DE X W0 p3 G2 elt me)
    (hw : ∀ j ∈ ws, j ∈ own.map (·.2)) (hG : wipeG (own.map (·.2)) G2 = wipeG (own.map (·.2)) G) (hnd : (own.map (·.2)).Nodup) (hown : ∀ i ∈ own.map (·.2), G[i]? = some .fz ∨ G[i]? = some .any) (wx : Wk G C.Gx)
    (hs : ∀ x, foldedSetIterable iter X.env x = pure x := by intro _; rfl) : DS X W C G (.Assign [.Name x q] (.ListComp elt [⟨tg, iter, ifs, 0⟩] scope pos) spos) (sSet i (eLc (own.map (·.2)) mi mt mc me)) (G.set i (.lst .fz)) := by
  obtain ⟨wi, pi, li⟩ := hi
  obtain ⟨g, pg, lg⟩ := allB_tg hg
  obtain ⟨tt, pt, lt⟩ := allB_ts ht
  obtain ⟨te, pe, le⟩ := allB_e he
  refine ⟨_, ps_setLc hc hN hx hxl hsw pi ok pg pt pe hs, fun F H A σ ρ E wf en hp => ?_⟩
  exact (lc_tl (W := W) li lg lt le hw hG hnd hown).useS wf en wx hp fun d ρ1 v H1 F1 A1 B wf1 en1 o hp => set_fin wf1 en1 o hp
end
end DM
/-! DmL: lists that are changed; op=; the rule for a def; the end of a law. -/
namespace DM
open PySem PySem.Spec PyProof.Rows L2

/-! ### an owned list is changed -/
/-- shapes of a list of this frame's own -/
inductive Ml : Sh → Prop
  | lst : Ml (.lst .fz)
  | at_ {v s} : Ml s → Ml (.at_ v s)
section
variable {K : PySem.W.Frag} {F F' : FS} {H H' : Hp}
theorem Ml.ow {s : Sh} {v : V} {d : D} {B : List Addr} (m : Ml s) (o : Ow K F H s v d B) : ∃ a vs ds, v = .ref a ∧ d = .lst ds ∧ H a = some (.lst vs) ∧ Rps K F H vs ds ∧ B = [a] := by
  induction m with
  | lst =>
    obtain ⟨a, vs, ds, B, rfl, rfl, h, r, e⟩ := o
    obtain ⟨r, e2⟩ := all3_fz r
    exact ⟨a, vs, ds, rfl, rfl, h, r, by rw [e, e2]⟩
  | at_ m ih => exact ih o.2
theorem Ml.of {s : Sh} {a : Addr} {vs ds} (m : Ml s) {v : V} {d : D} {B : List Addr} (o : Ow K F H s v d B) (e : v = .ref a) (h : H' a = some (.lst vs)) (r : Rps K F' H' vs ds) : Ow K F' H' s (.ref a) (.lst ds) [a] := by
  induction m with
  | lst => exact ⟨a, vs, ds, [], rfl, rfl, h, all3_of r, rfl⟩
  | at_ m ih => exact ⟨e ▸ o.1, ih o.2⟩
theorem mut_lst {G : List Sh} {σ : L2.St} {ρ : Env} {A i s d} (wf : Wf F H A) (en : EnvR K F H G σ ρ A) (hG : G[i]? = some s) (m : Ml s) (hd : ρ[i]? = some (some d)) :
    ∃ a vs ds, σ[i]? = some (some (.ref a)) ∧ d = .lst ds ∧ H a = some (.lst vs) ∧ Rps K F H vs ds ∧
      ∀ vs' ds', Rps K F H vs' ds' → ∃ A', Stp F H A F (upd H a (.lst vs')) A' ∧ Wf F (upd H a (.lst vs')) A' ∧ EnvR K F (upd H a (.lst vs')) G σ (ρ.set i (some (.lst ds'))) A' ∧ ∀ w dw, Rp K F H w dw → Rp K F (upd H a (.lst vs')) w dw := by
  obtain ⟨v, B, A', e1, o, en', pm⟩ := en.take hG hd
  obtain ⟨a, vs, ds, rfl, rfl, h, r, rfl⟩ := m.ow o
  have wfp := wf.perm pm
  have aA : a ∈ A := pm.mem_iff.mpr (by simp)
  have nA : a ∉ A' := (List.nodup_cons.mp wfp.nd).1
  refine ⟨a, vs, ds, e1, rfl, h, r, fun vs' ds' r' => ?_⟩
  have nF : ¬ F a := wf.ap a aA
  have fut : Fut F H F (upd H a (.lst vs')) := ⟨fun _ h => h, fun b xs f e => by rw [upd_ne (ne_f f nF)]; exact e, fun b u f r => by
    rcases r with r | ⟨o, r⟩
    · exact .inl (by rw [upd_ne (ne_f f nF)]; exact r)
    · exact .inr ⟨o, by rw [upd_ne (ne_f f nF)]; exact r⟩⟩
  have en2 := en'.mono (F' := F) (H' := upd H a (.lst vs')) ⟨fut, fun b hb => upd_ne (ne_a hb nA)⟩
  have hi : i < ρ.length := (List.getElem?_eq_some_iff.mp hd).1
  obtain ⟨A2, en3, pm2⟩ := en2.put (i := i) (s := s) (v := .ref a) (d := .lst ds') (B := [a]) hG (by rw [List.getElem?_set_self hi]) e1 (m.of o rfl upd_same (r'.mono fut))
  rw [List.set_set] at en3
  have pm3 : A2.Perm A := pm2.trans pm.symm
  refine ⟨A2, ⟨fun _ h => h, fun b o e n => by rw [upd_ne (fun z => n (by rw [z]; exact aA))]; exact e, fun b hb => .inl (pm3.mem_iff.mp hb), fun _ h => .inl h⟩, ⟨fun b f => ?_, fun b hb => ?_, pm3.nodup_iff.mpr wf.nd, fun b hb => wf.ap b (pm3.mem_iff.mp hb)⟩, en3, fun w dw r => r.mono fut⟩
  · rw [upd_ne (ne_f f nF)]; exact wf.f b f
  · by_cases hz : b = a
    · rw [hz, upd_same]; exact fun z => nomatch z
    · rw [upd_ne hz]; exact wf.a b (pm3.mem_iff.mp hb)
end
/-- a list's method: what it tells, the list behind it -/
def VMut (K : PySem.W.Frag) (r : V → List V → Hp → VK → Prop) (f : List D → List D → Option (D × List D)) : Prop :=
  ∀ F H a vs ds xs es d ds' (Q : VK), ¬ F a → H a = some (.lst vs) → Rps K F H vs ds → Rps K F H xs es → f ds es = some (d, ds') → (∀ w vs', Rp K F H w d → Rps K F H vs' ds' → Q w (upd H a (.lst vs'))) → r (.ref a) xs H Q
def eMut (i : Nat) (f : List D → List D → Option (D × List D)) (ma : Mi (List D)) : Mi D := fun ρ => match ρ[i]? with
  | some (some _) => bnd ma (fun es ρ1 => match ρ1[i]? with
    | some (some (.lst ds)) => (match f ds es with
      | some (d, ds') => .ok d (ρ1.set i (some (.lst ds')))
      | none => .bad)
    | _ => .bad) ρ
  | _ => .bad
section
variable {X : Cx} {W : WX} {C : SC} {p p1 p2 p3 : Bool} {G G1 G2 G' Gh : List Sh} {e a b c tg : Expr} {es : List Expr} {pos q apos cpos : Pos} {F F1 : FS} {H H1 : Hp} {A A1 : List Addr} {σ : L2.St} {ρ ρ1 : Env} {s : Sh} {st : Stmt} {sts rest : List Stmt} {x name : Str} {id : String} {r : V → List V → Hp → VK → Prop} {f : List D → List D → Option (D × List D)}
theorem mut_run {es : List D} {vs : List V} {Q : VK} {i : Nat} (hf : VMut X.K r f) (wf : Wf F H A) (en : EnvR X.K F H G σ ρ A) (hG : G[i]? = some s) (m : Ml s) (rs : Rps X.K F H vs es)
    (hp : Pg X W false (Rp X.K) G σ F H A ρ (match ρ[i]? with
    | some (some (.lst ds)) => (match f ds es with
      | some (d, ds') => .ok d (ρ.set i (some (.lst ds')))
      | none => .bad)
    | _ => .bad) Q) : ∀ v, σ[i]? = some (some v) → r v vs H Q := by
  intro v hv
  split at hp
  · rename_i ds hd
    obtain ⟨l, us, ds', e1, e2, h, ru, upd⟩ := mut_lst wf en hG m hd
    cases e2
    rw [hv] at e1; cases e1
    split at hp
    · rename_i d ds2 ef
      have lA : l ∈ A := by
        obtain ⟨v', B, A', e3, o, en', pm⟩ := en.take hG hd
        rw [hv] at e3; cases e3
        obtain ⟨a', vs', ds', e4, _, _, _, rfl⟩ := m.ow o
        cases e4
        exact pm.mem_iff.mpr (by simp)
      refine hf F H l us _ vs es d ds2 Q (wf.ap l lA) h ru rs ef fun w vs' rw' rs' => ?_
      obtain ⟨A', st, wf', en', fu⟩ := upd vs' ds2 rs'
      exact hp w _ F A' st wf' en' (fu _ _ rw') fun z => nomatch z
    · exact hp.elim
  · exact hp.elim
theorem ty_lst {K : PySem.W.Frag} {i : Nat} {d : D} {v : V} (wf : Wf F H A) (en : EnvR K F H G σ ρ A) (hG : G[i]? = some s) (m : Ml s) (hd : ρ[i]? = some (some d)) (hv : σ[i]? = some (some v)) : tyV K "list" v H := by
  obtain ⟨l, us, ds', e1, e2, h, ru, upd⟩ := mut_lst wf en hG m hd
  rw [hv] at e1; cases e1
  exact .inl ⟨rfl, us, SqL.of h⟩
/-- x.m(a, ..), x a list of this frame's own -/
theorem de_mut (i : Nat) {ma : Mi (List D)} (slot : Slot "list" name id) (hty : typeOf (.builtin id) = pure (.type "method_descriptor")) (hm : MtR X id r) (hf : VMut X.K r f) (hG : G[i]? = some s) (m : Ml s) (hN : X.N[i]? = some x) (hv : Vis X.env.scope x) (ha : DA X W p G (e :: es) ma)
    (hd : (x == ("__debug__" : Str)) = false := by decide) (hcd : (x == ("__classdict__" : Str)) = false := by decide)
    (hbase : attributeBase (.Name x q) name X.env (eval (.Name x q) X.env) = eval (.Name x q) X.env := by rfl)
    (hfew : ((backTo cpos (starEach (e :: es) X.env)).all (fun x => !x.1) && (backToKw cpos (keywordEach [] X.env)).all (fun x => x.1.isSome)
      && decide ((e :: es).length + ([] : List Keyword).length + (if ([] : List Keyword).isEmpty then 0 else 1) < 30)) = true := by rfl)
    (hline : (apos.endLine == cpos.line) = true := by rfl) (hs : starEach (e :: es) X.env = (false, eval e X.env) :: starEach es X.env := by rfl) (hplain : (backTo cpos (starEach es X.env)).any (·.1) = false := by rfl) :
    DE X W false G (.Call (.Attribute (.Name x q) name apos) (e :: es) [] cpos) (eMut i f ma) := by
  obtain ⟨t, pe, l⟩ := ha
  refine ⟨_, pe_bm PySem.F.plainAttrs_list slot hty hm (pe_var hN hv hd hcd) pe hbase hfew hline hs hplain, fun F H A σ ρ Q wf en hp => ?_⟩
  unfold eMut at hp
  split at hp
  rotate_left
  · exact hp.elim
  rename_i d hd
  obtain ⟨v, B, e1, o, _⟩ := en.get hG hd
  refine ⟨v, e1, ty_lst wf en hG m hd e1, ?_⟩
  refine l.weak.use (p2 := false) wf en hp fun ds ρ1 xs H1 F1 A1 s1 wf1 en1 rs _ hp => ?_
  exact mut_run hf wf1 en1 hG m rs.1 hp v e1
theorem de_mut0 (i : Nat) (slot : Slot "list" name id) (hty : typeOf (.builtin id) = pure (.type "method_descriptor")) (hm : MtR X id r) (hf : VMut X.K r f) (hG : G[i]? = some s) (m : Ml s) (hN : X.N[i]? = some x) (hv : Vis X.env.scope x)
    (hd : (x == ("__debug__" : Str)) = false := by decide) (hcd : (x == ("__classdict__" : Str)) = false := by decide)
    (hbase : attributeBase (.Name x q) name X.env (eval (.Name x q) X.env) = eval (.Name x q) X.env := by rfl) (hline : (apos.endLine == cpos.line) = true := by rfl) :
    DE X W false G (.Call (.Attribute (.Name x q) name apos) [] [] cpos) (eMut i f aNil) := by
  refine ⟨_, pe_bm0 PySem.F.plainAttrs_list slot hty hm (pe_var hN hv hd hcd) hbase hline, fun F H A σ ρ Q wf en hp => ?_⟩
  unfold eMut at hp
  split at hp
  rotate_left
  · exact hp.elim
  rename_i d hd
  obtain ⟨v, B, e1, o, _⟩ := en.get hG hd
  exact ⟨v, e1, ty_lst wf en hG m hd e1, mut_run hf wf en hG m .nil hp v e1⟩
def mAppend : List D → List D → Option (D × List D)
  | ds, [x] => if ds.length < 16777216 then some (.non, ds ++ [x]) else none
  | _, _ => none
theorem vm_append {K : PySem.W.Frag} : VMut K rAppend mAppend := by
  intro F H a vs ds xs es d ds' Q nF h r rx e k
  unfold mAppend at e
  split at e
  · split at e
    · cases e
      cases rx with
      | cons r1 r2 =>
        cases r2
        exact ⟨a, vs, _, rfl, rfl, h, by rw [r.length, szl]; assumption, k _ _ (.v _) (r.app (.cons r1 .nil))⟩
    · cases e
  · cases e
def mPop : List D → List D → Option (D × List D)
  | ds, [] => (ds[ds.length - 1]?).map fun d => (d, ds.dropLast)
  | _, _ => none
theorem rps_dropLast {K : PySem.W.Frag} : ∀ {vs ds}, Rps K F H vs ds → Rps K F H vs.dropLast ds.dropLast
  | _, _, .nil => .nil
  | _, _, .cons h .nil => .nil
  | _, _, .cons h (.cons h2 r) => .cons h (rps_dropLast (.cons h2 r))
theorem vm_pop {K : PySem.W.Frag} : VMut K rPop mPop := by
  intro F H a vs ds xs es d ds' Q nF h r rx e k
  unfold mPop at e
  split at e
  · obtain ⟨y, e1, e2⟩ := Option.map_eq_some_iff.mp e
    cases e2
    cases rx
    obtain ⟨v, h1, h2⟩ := r.get e1
    exact ⟨a, vs, v, rfl, rfl, h, by rw [r.length]; exact h1, k _ _ h2 (rps_dropLast r)⟩
  · cases e
def mClear : List D → List D → Option (D × List D)
  | _, [] => some (.non, [])
  | _, _ => none
theorem vm_clear {K : PySem.W.Frag} : VMut K rClear mClear := by
  intro F H a vs ds xs es d ds' Q nF h r rx e k
  unfold mClear at e
  split at e
  · cases e; cases rx; exact ⟨a, vs, rfl, rfl, h, k _ _ (.v _) .nil⟩
  · cases e
def mReverse : List D → List D → Option (D × List D)
  | ds, [] => some (.non, ds.reverse)
  | _, _ => none
theorem rps_reverse {K : PySem.W.Frag} : ∀ {vs ds}, Rps K F H vs ds → Rps K F H vs.reverse ds.reverse
  | _, _, .nil => .nil
  | _, _, .cons h r => by
    rw [List.reverse_cons, List.reverse_cons]
    exact (rps_reverse r).app (.cons h .nil)
theorem vm_reverse {K : PySem.W.Frag} : VMut K rReverse mReverse := by
  intro F H a vs ds xs es d ds' Q nF h r rx e k
  unfold mReverse at e
  split at e
  · cases e; cases rx; exact ⟨a, vs, rfl, rfl, h, k _ _ (.v _) (rps_reverse r)⟩
  · cases e
def mExtend : List D → List D → Option (D × List D)
  | ds, [.lst xs] => if ds.length + xs.length ≤ 16777216 then some (.non, ds ++ xs) else none
  | _, _ => none
theorem vm_extend {K : PySem.W.Frag} : VMut K rExtend mExtend := by
  intro F H a vs ds xs es d ds' Q nF h r rx e k
  unfold mExtend at e
  split at e
  · split at e
    · cases e
      cases rx with
      | cons r1 r2 =>
        cases r2
        cases r1 with
        | lst f h2 r2 => exact ⟨a, _, vs, _, rfl, rfl, h, h2, by rw [r.length, r2.length, szl]; assumption, k _ _ (.v _) (r.app r2)⟩
    · cases e
  · cases e
/-- x[i] = .., x a list of this frame's own -/
def gSet (i : Nat) (mi : Mi D) : Mt := fun d ρ => match ρ[i]? with
  | some (some _) => (match mi ρ with
    | .ok (.v (.int k)) ρ1 => (match ρ1[i]? with
      | some (some (.lst ds)) => (ixN ds.length k).map fun j => ρ1.set i (some (.lst (ds.set j d)))
      | _ => none)
    | _ => none)
  | _ => none
theorem dt_set (i : Nat) {ix : Expr} {mi : Mi D} {W : WX} (hG : G[i]? = some s) (m : Ml s) (hN : X.N[i]? = some x) (hv : Vis X.env.scope x) (hi : DE X W p G ix mi) (hd : (x == ("__debug__" : Str)) = false := by decide) (hcd : (x == ("__classdict__" : Str)) = false := by decide)
    (ha : ∀ v, assign (.Subscript (.Name x q) ix pos) X.env v = (do
      let ov ← holding [v] (eval (.Name x q) X.env)
      let iv ← holding [v, ov] (eval ix X.env)
      standAt pos
      holding [v, ov, iv] (setItem ov iv v)
      release [v, ov, iv] []) := by intro _; rfl) : DTg X G (.Subscript (.Name x q) ix pos) (gSet i mi) G [] := by
  obtain ⟨t, pe, l⟩ := hi
  refine ⟨_, pg_sub (pe_var hN hv hd hcd) pe set_list ha, fun F H A σ ρ v d ρ' Q wf en r e k => ?_⟩
  unfold gSet at e
  split at e
  rotate_left
  · cases e
  rename_i d0 hd0
  obtain ⟨w, B, e1, o, _⟩ := en.get hG hd0
  refine ⟨w, e1, l F H A σ ρ _ wf en ?_⟩
  cases em : mi ρ with
  | bad => rw [em] at e; cases e
  | exc x ρ1 => rw [em] at e; cases e
  | ok d1 ρ1 =>
    rw [em] at e
    intro y H1 F1 A1 s1 wf1 en1 r1 _
    split at e
    rotate_left
    · cases e
    rename_i kk ρ1' heq
    cases heq
    split at e
    rotate_left
    · cases e
    rename_i ds hds
    obtain ⟨j, ej, e2⟩ := Option.map_eq_some_iff.mp e
    subst e2
    cases r1
    obtain ⟨a, vs, ds', e3, e4, h, ru, up⟩ := mut_lst wf1 en1 hG m hds
    cases e4
    rw [e1] at e3; cases e3
    obtain ⟨A2, s2, wf2, en2, fu⟩ := up _ _ (ru.set j (r.mono (s1.fut wf)))
    exact ⟨a, vs, kk, j, rfl, rfl, h, by rw [ru.length]; exact ej, k σ _ F1 A2 (s1.trans s2) wf2 en2 fun _ _ => rfl⟩
/-- x op= e, x a value that stays -/
def sAug (i : Nat) (f : D → D → Option D) (m : Mi D) : Ms := bnd (eVar i) fun x => bnd m fun y => bnd (lift (f x y)) fun z => setI i z
theorem ds_aug {i : Nat} {op : Operator} {r : R2} {f : D → D → Option D} {m : Mi D} (nd : X.N.Nodup) (hi : X.N[i]? = some x) (hx : Loc X.env.scope x) (hG : G[i]? = some .fz) (ho : OpR X (inplaceOp op) r) (hf : VOp X.K r f) (he : DE X W p G e m) (wx : Wk G C.Gx)
    (hl : X.fn x = true ∨ X.env.scope.names.lookup x = some .local := by first | exact .inl rfl | exact .inr rfl | assumption) : DS X W C G (.AugAssign (.Name x q) op e pos) (sAug i f m) G := by
  obtain ⟨t, pe, l⟩ := he
  refine ⟨_, ps_aug (op := op) nd hi hx pe ho hl, fun F H A σ ρ E wf en hp => ?_⟩
  unfold sAug bnd at hp
  unfold eVar at hp
  split at hp
  rotate_left
  · exact hp.elim
  rename_i d hd
  simp only [Out.bind_ok] at hp
  obtain ⟨v, B, e1, o, _⟩ := en.get hG hd
  refine ⟨v, e1, ?_⟩
  have hp2 : PgS X W C G F H A (bnd m (fun y => bnd (lift (f d y)) fun z => setI i z) ρ) E := hp
  refine l F H A σ ρ _ wf en ?_
  unfold bnd at hp2
  cases em : m ρ with
  | bad => rw [em] at hp2; exact hp2
  | exc x ρ' =>
    rw [em] at hp2
    intro cls dd H' F' A' st wf' en' r pp
    obtain ⟨A2, en2, sb⟩ := en'.weak wx
    exact hp2 cls dd σ H' F' A2 (st.sub sb) (wf'.sub sb) en2 r
  | ok d2 ρ1 =>
    rw [em] at hp2
    intro y H1 F1 A1 s1 wf1 en1 r1 _
    simp only [Out.bind_ok] at hp2
    cases ez : f d d2 with
    | none => rw [ez] at hp2; exact hp2.elim
    | some z =>
      rw [ez] at hp2
      refine hf F1 H1 v y d d2 z _ wf1.f (o.1.mono (s1.fut wf)) r1 ez fun w H' F' s2 rz => ?_
      have hp3 : PgS X W C G F1 H1 A1 (setI i z ρ1) E := PgS.after s1 hp2
      have gs : G.set i .fz = G := by
        apply List.ext_getElem?
        intro j
        by_cases hj : i = j
        · subst hj; rw [List.getElem?_set_self (List.getElem?_eq_some_iff.mp hG).1, hG]
        · rw [List.getElem?_set_ne hj]
      have hp4 : PgS X W C (G.set i .fz) F' H' ([] ++ A1) (setI i z ρ1) E := by
        rw [gs]; exact PgS.after s2.stp hp3
      exact set_fin (s := .fz) (B := []) (s2.wf wf1) (en1.mono (s2.stay wf1.a)) ⟨rz, rfl⟩ hp4
end

/-! ### the rule for a def -/
/-- the slots at the start: an owned argument is at its address -/
def g0s : List Sh → List V → List Sh
  | [], _ => []
  | .fz :: sh, _ :: vs => .fz :: g0s sh vs
  | s :: sh, v :: vs => .at_ v s :: g0s sh vs
  | _ :: sh, [] => .any :: g0s sh []
def grs : List Sh → List V → List Sh
  | [], _ => []
  | .fz :: sh, _ :: vs => .any :: grs sh vs
  | s :: sh, v :: vs => .at_ v s :: grs sh vs
  | _ :: sh, [] => .any :: grs sh []
/-- the arguments as they are at the end -/
def fin : List Sh → List D → Env → Option (List D)
  | [], [], _ => some []
  | .fz :: sh, d :: ds, _ :: ρ => (fin sh ds ρ).map (d :: ·)
  | _ :: sh, _ :: ds, some d' :: ρ => (fin sh ds ρ).map (d' :: ·)
  | _, _, _ => none
def isFz : Sh → Bool
  | .fz => true
  | _ => false
/-- a def's mirror, by that of its body; n: how many slots -/
def mfOf (n : Nat) (sh : List Sh) (sr : Sh) (m : Ms) : Mf := fun ds => match m (ds.map some ++ List.replicate (n - ds.length) none) with
  | .ok .nx ρ => if isFz sr then (match fin sh ds ρ with | some ds' => .ok .non ds' | none => .bad) else .bad
  | .ok (.rt d) ρ => (match fin sh ds ρ with | some ds' => .ok d ds' | none => .bad)
  | .exc x ρ => (match fin sh ds ρ with | some ds' => .exc x ds' | none => .bad)
  | _ => .bad
section
variable {K : PySem.W.Frag} {F F' : FS} {H H' : Hp}
theorem env_none : ∀ n : Nat, EnvR K F H (List.replicate n .any) (List.replicate n none) (List.replicate n none) []
  | 0 => rfl
  | n + 1 => by simpa only [List.replicate_succ, EnvR] using env_none n
theorem env_app : ∀ {G1 G2 : List Sh} {σ1 σ2 : L2.St} {ρ1 ρ2 : Env} {A1 A2}, EnvR K F H G1 σ1 ρ1 A1 → EnvR K F H G2 σ2 ρ2 A2 → EnvR K F H (G1 ++ G2) (σ1 ++ σ2) (ρ1 ++ ρ2) (A1 ++ A2)
  | [], _, [], _, [], _, A1, _, h, h2 => by
    have e : A1 = [] := h
    subst e
    exact h2
  | _ :: _, _, _ :: _, _, none :: _, _, _, _, h, h2 => by
    have := env_app (show EnvR K F H _ _ _ _ from by simpa only [EnvR] using h) h2
    simpa only [List.cons_append, EnvR] using this
  | _ :: _, _, some _ :: _, _, some _ :: _, _, _, _, ⟨B1, B2, h1, h3, e⟩, h2 => ⟨B1, _, h1, env_app h3 h2, by rw [e, List.append_assoc]⟩
  | [], _, [], _, _ :: _, _, _, _, h, _ => by simp [EnvR] at h
  | [], _, _ :: _, _, _, _, _, _, h, _ => by simp [EnvR] at h
  | _ :: _, _, [], _, _, _, _, _, h, _ => by simp [EnvR] at h
  | _ :: _, _, _ :: _, _, [], _, _, _, h, _ => by simp [EnvR] at h
  | _ :: _, _, none :: _, _, some _ :: _, _, _, _, h, _ => by simp [EnvR] at h
theorem env_g0 : ∀ {sh : List Sh} {vs : List V} {ds : List D} {A}, EnvR K F H sh (vs.map some) (ds.map some) A → EnvR K F H (g0s sh vs) (vs.map some) (ds.map some) A
  | [], [], [], _, h => h
  | s :: sh, v :: vs, d :: ds, A, ⟨B1, B2, h1, h2, e⟩ => by
    cases s with
    | fz => exact ⟨B1, B2, h1, env_g0 h2, e⟩
    | any => exact ⟨B1, B2, ⟨rfl, h1⟩, env_g0 h2, e⟩
    | lst s => exact ⟨B1, B2, ⟨rfl, h1⟩, env_g0 h2, e⟩
    | dct s => exact ⟨B1, B2, ⟨rfl, h1⟩, env_g0 h2, e⟩
    | at_ w s => exact ⟨B1, B2, ⟨rfl, h1⟩, env_g0 h2, e⟩
  | [], [], _ :: _, _, h => by simp [EnvR] at h
  | [], _ :: _, _, _, h => by simp [EnvR] at h
  | _ :: _, [], _, _, h => by simp [EnvR] at h
  | _ :: _, _ :: _, [], _, h => by simp [EnvR] at h
theorem env_fin (fut : Fut F H F' H') : ∀ {sh : List Sh} {vs : List V} {ds ds' : List D} {A A' n σ ρ}, EnvR K F H sh (vs.map some) (ds.map some) A → EnvR K F' H' (grs sh vs ++ List.replicate n .any) σ ρ A' → fin sh ds ρ = some ds' → EnvR K F' H' sh (vs.map some) (ds'.map some) A'
  | [], [], [], ds', A, A', n, σ, ρ, h, h', e => by
    have e' : ds' = [] := by unfold fin at e; cases e; rfl
    subst e'
    have : ∀ (n : Nat) (σ : L2.St) (ρ : Env) (A' : List Addr), EnvR K F' H' (List.replicate n .any) σ ρ A' → A' = [] := fun n => by
      induction n with
      | zero =>
        intro σ ρ A' h
        cases σ <;> cases ρ <;> first | exact h | simp [EnvR] at h
      | succ n ih =>
        intro σ ρ A' h
        rw [List.replicate_succ] at h
        cases σ with
        | nil => simp [EnvR] at h
        | cons y σ =>
          cases ρ with
          | nil => simp [EnvR] at h
          | cons z ρ =>
            cases z with
            | none => exact ih σ ρ A' (by simpa only [EnvR] using h)
            | some d =>
              cases y with
              | none => simp [EnvR] at h
              | some v =>
                obtain ⟨B1, B2, h1, h2, e⟩ := h
                have h1 : B1 = [] := h1
                rw [e, h1, ih σ ρ B2 h2]; rfl
    have hA : A' = [] := this n σ ρ A' h'
    subst hA
    rfl
  | s :: sh, v :: vs, d :: ds, ds', A, A', n, σ, ρ, ⟨B1, B2, h1, h2, eA⟩, h', e => by
    have other : ∀ {s : Sh}, (∀ d ρ, fin (s :: sh) (d :: ds) ρ = match ρ with | some d' :: ρ => (fin sh ds ρ).map (d' :: ·) | _ => none) → fin (s :: sh) (d :: ds) ρ = some ds' → EnvR K F' H' (.at_ v s :: (grs sh vs ++ List.replicate n .any)) σ ρ A' → EnvR K F' H' (s :: sh) ((v :: vs).map some) (ds'.map some) A' := fun {s} eq e h' => by
      rw [eq] at e
      split at e
      · rename_i d' ρ'
        obtain ⟨r, e1, e2⟩ := Option.map_eq_some_iff.mp e
        subst e2
        cases σ with
        | nil => simp [EnvR] at h'
        | cons y σ =>
          cases y with
          | none => simp [EnvR] at h'
          | some w =>
            obtain ⟨C1, C2, o, k2, e3⟩ := h'
            obtain ⟨rfl, o⟩ := o
            exact ⟨C1, C2, o, env_fin fut h2 k2 e1, e3⟩
      · cases e
    cases s with
    | fz =>
      cases σ with
      | nil => cases ρ <;> simp [EnvR, grs] at h'
      | cons y σ =>
        cases ρ with
        | nil => simp [EnvR, grs] at h'
        | cons z ρ =>
          unfold fin at e
          obtain ⟨r, e1, e2⟩ := Option.map_eq_some_iff.mp e
          subst e2
          cases z with
          | none => exact ⟨[], A', ⟨h1.1.mono fut, rfl⟩, env_fin fut h2 (by simpa only [grs, List.cons_append, EnvR] using h') e1, rfl⟩
          | some d' =>
            cases y with
            | none => simp [EnvR, grs] at h'
            | some w =>
              obtain ⟨C1, C2, o, k2, e3⟩ := h'
              have o : C1 = [] := o
              exact ⟨[], A', ⟨h1.1.mono fut, rfl⟩, env_fin fut h2 (by rw [e3, o]; exact k2) e1, rfl⟩
    | any => exact other (fun d ρ => by cases ρ with | nil => rfl | cons z ρ => cases z <;> rfl) e h'
    | lst s => exact other (fun d ρ => by cases ρ with | nil => rfl | cons z ρ => cases z <;> rfl) e h'
    | dct s => exact other (fun d ρ => by cases ρ with | nil => rfl | cons z ρ => cases z <;> rfl) e h'
    | at_ w s => exact other (fun d ρ => by cases ρ with | nil => rfl | cons z ρ => cases z <;> rfl) e h'
  | [], [], _ :: _, _, _, _, _, _, _, h, _, _ => by simp [EnvR] at h
  | [], _ :: _, _, _, _, _, _, _, _, h, _, _ => by simp [EnvR] at h
  | _ :: _, [], _, _, _, _, _, _, _, h, _, _ => by simp [EnvR] at h
  | _ :: _, _ :: _, [], _, _, _, _, _, _, h, _, _ => by simp [EnvR] at h
end
section
variable {P : Program} {w : World} {K : PySem.W.Frag} {mg : Str → Option Value} {base : Heap} {x qual : Str} {params : Arguments} {body : List Stmt} {scope : Scope} {dvs : List V} {kws : List (Str × V)} {f : Addr} {fd : FuncData}
theorem FnG.ofD {N ps : List Str} {k : Nat} {sp : Sp} (F : FunD K x qual params body scope dvs kws f fd) (S : FnScope N ps scope) (len : ∀ vs H Q E, sp vs H Q E → vs.length = ps.length)
    (hbody : ∀ (cdv : Value) (A : Around) (outer : List PySem.Env) (s : Shared) (H : Hp) (vs : List V) (Q : VK) (E : XK), Room k (A.deeper (envOfC qual scope s.heap.objs.size f cdv)) → (A.deeper (envOfC qual scope s.heap.objs.size f cdv)).guards = some [] → sp vs H Q E →
      ∃ t, PSs (cxOf (L2.CX P w) P w K mg base N qual scope f cdv A outer s H E) body t ∧ t { nx := fun _ H' => Q .non H', rt := Q } (start N vs) H) : FnG P w K mg base (k + 1) f fd ps sp := by
  obtain ⟨oc, od, dV, kV, doc, pm, an, cdv, ct, osl, e0, lk, hcd, _, _⟩ := F.ex
  subst e0
  constructor
  · exact len
  intro A outer s H args us vs Q E hr hg e0 hb r hsp
  have old : ∀ b o, base.get? b = some o → s.heap.get? b = some o := fun b o e => (e0.bs b o e).1
  have inS : K.In s.heap := e0.mod.kin.keeps old
  apply codeAny_call_function hr.depth (inS _ _ lk) rfl S.co S.gen rfl (PySem.W.codeRec_of inS hcd)
  apply hb
  apply wpAny_newFunctionEnv_cells S.kind
  · intro y hy
    obtain ⟨n, v⟩ := y
    cases S.par n (List.of_mem_zip hy).1 with
    | inl q => exact .inl q
    | inr q => exact .inr ⟨q, PySem.W.cellsFrom_some _ _ _ (.inl q)⟩
  · intro env he s1 x
    subst he
    refine ⟨(e0.mod.nolimit.keeps old).keeps x.toInCall.keep, codeAny_func ?_⟩
    obtain ⟨t, pt, ht⟩ := hbody cdv A outer s H vs Q E (hr.deeper _) (by show A.guards = some []; exact hg) hsp
    have I := inv_start (CX := L2.CX P w) (E := E) S hr.hd e0 (len _ _ _ _ hsp) r x
    refine wpAny_mono (pt.run [] s1 (start N vs) H _ I ht) ?_ (fun _ _ z => z)
    intro fl s' hs
    cases fl with
    | next =>
      obtain ⟨σ2, H2, J, q⟩ := hs
      exact ⟨.non, H2, J.os, J.bare, J.base, J.hok, rfl, q⟩
    | ret u =>
      obtain ⟨v, σ2, H2, J, rv, q⟩ := hs
      exact ⟨v, H2, J.os, J.bare, J.base, J.hok, rv, q⟩
    | brk => obtain ⟨_, _, _, q⟩ := hs; exact q.elim
    | cont => obtain ⟨_, _, _, q⟩ := hs; exact q.elim
/-- the context of a def's body -/
abbrev FX (P : Program) (w : World) (K : PySem.W.Frag) (mg : Str → Option Value) (base : Heap) (N : List Str) (qual : Str) (scope : Scope) (f : Addr) (cdv : Value) (A : Around) (outer : List PySem.Env) (s : Shared) (H : Hp) (E : XK) : Cx := cxOf (L2.CX P w) P w K mg base N qual scope f cdv A outer s H E
/-- the ends of its body; m: the slots behind the arguments -/
abbrev scF (sh : List Sh) (sr : Sh) (vs : List V) (m : Nat) : SC := ⟨sr, grs sh vs ++ List.replicate m .any, [], [], grs sh vs ++ List.replicate m .any⟩
/-- THE RULE for a def -/
theorem fn_d {N ps : List Str} {k : Nat} {sh : List Sh} {sr : Sh} {m : Ms} {n : Nat} (F : FunD K x qual params body scope dvs kws f fd) (S : FnScope N ps scope) (hl : sh.length = ps.length) (hn : N.length = n)
    (hb : ∀ (cdv : Value) (A : Around) (outer : List PySem.Env) (s : Shared) (H : Hp) (vs : List V) (E : XK), Room k (A.deeper (envOfC qual scope s.heap.objs.size f cdv)) → (A.deeper (envOfC qual scope s.heap.objs.size f cdv)).guards = some [] → vs.length = sh.length →
      DSs (FX P w K mg base N qual scope f cdv A outer s H E) (fun cls d _ H => E cls d H) (scF sh sr vs (n - sh.length)) (g0s sh vs ++ List.replicate (n - sh.length) .any) body m (grs sh vs ++ List.replicate (n - sh.length) .any)) : FnG P w K mg base (k + 1) f fd ps (spD K mg sh sr (mfOf n sh sr m)) := by
  refine FnG.ofD F S (fun vs H Q E h => h.1.trans hl) fun cdv A outer s H vs Q E hr hg h => ?_
  obtain ⟨hv, F0, A0, ds, wf, en, h⟩ := h
  obtain ⟨t, pt, l⟩ := hb cdv A outer s H vs E hr hg hv
  have ld := en.len
  simp at ld
  refine ⟨t, pt, l F0 H A0 _ (ds.map some ++ List.replicate (n - ds.length) none) _ wf ?_ ?_⟩
  · have := env_app (env_g0 en) (env_none (K := K) (F := F0) (H := H) (n - sh.length))
    rw [List.append_nil] at this
    unfold L2.start
    rw [hn, show n - ds.length = n - sh.length by omega, show n - vs.length = n - sh.length by omega]
    exact this
  · unfold mfOf at h
    cases em : m (ds.map some ++ List.replicate (n - ds.length) none) with
    | bad => rw [em] at h; exact h
    | exc x ρ' =>
      rw [em] at h
      intro cls dd σ' H' F' A' st wf' en' xr
      cases ef : fin sh ds ρ' with
      | none => simp only [ef] at h
      | some ds' =>
        simp only [ef] at h
        exact h cls dd H' F' A' st wf' (env_fin (st.fut wf) en en' ef) xr
    | ok c ρ' =>
      rw [em] at h
      cases c with
      | bk => exact h.elim
      | ct => exact h.elim
      | rt d =>
        intro v σ' H' F' A' B st wf' en' o
        cases ef : fin sh ds ρ' with
        | none => simp only [ef] at h
        | some ds' =>
          simp only [ef] at h
          exact h v H' F' A' B st wf' (env_fin ((stp_cons st).fut wf) en en' ef) o
      | nx =>
        intro σ' H' F' A' st wf' en'
        cases es : isFz sr with
        | false => simp only [es] at h; exact h.elim
        | true =>
          cases ef : fin sh ds ρ' with
          | none => simp only [es, ef] at h; exact h.elim
          | some ds' =>
            simp only [es, ef] at h
            have hs : sr = .fz := by cases sr <;> first | rfl | cases es
            subst hs
            exact h .non H' F' A' [] st wf' (env_fin (st.fut wf) en en' ef) ⟨.v _, rfl⟩
end

/-! ### the end of a law -/
/-- the table of modules is a dict -/
def SysOk (h : Heap) : Prop := ∃ o, h.get? sysModules = some o ∧ o.cls = .type "dict"
theorem SysOk.keeps {h h' : Heap} (x : SysOk h) (k : ∀ b o, h.get? b = some o → h'.get? b = some o) : SysOk h' := by
  obtain ⟨o, e, c⟩ := x
  exact ⟨o, k _ _ e, c⟩
/-- the script, as it lies at the start: it stays, nothing else is known -/
theorem law_run {P : Program} {w : World} {K : PySem.W.Frag} {mg mb : Str → Option Value} {k : Nat} {fa a : Addr} {fd : FuncData} {x : Str} {m : Mf} {s₁ : Shared} {vs : List Value} {ns : List Int}
    (KX : K.In s₁.heap) (hns : s₁.heap.Ns mainGlobals mg) (hb : s₁.heap.Ns builtinsNs mb) (hbb : ∀ x : Str, x ≠ "__name__" → mb x = bootBuiltins x) (hlim : s₁.heap.NoLimit) (hg : s₁.gens = #[])
    (ha : s₁.heap.get? a = some { cls := .type "list", data := .seq vs.toArray }) (hi : IntsAre vs ns) (hl : ns.length ≤ sizeLine) (hr : Room k callerA) (hsys : SysOk s₁.heap)
    (F : ∀ base : Heap, K.In base → base.Ns mainGlobals mg → SysOk base → FnG P w K mg base k fa fd [x] (spD K mg [.fz] .fz m)) (hbind : ∀ (s : Shared) (u : Value), BindsTo s fd ⟨[u], []⟩ [(x, u)])
    (hm : ∃ ds, m [.scr ns] = .ok (.bl true) ds) :
    codeAny (model P w) callerA (.call (.ref fa) ⟨[.ref a], []⟩) (fun r s' => r = .ok (.ret (.bool true)) ∧ OldK s₁.heap s'.heap ∧ s'.os = s₁.os ∧ AllBare s'.gens) s₁ := by
  have relS := vals_ints hi
  -- by an abstract heap that knows the script at most
  have byH : ∀ G0 : Hp, (∀ c, G0 c = none ∨ ∃ o xs, G0 c = some (.frz o (.lst xs))) → LstF K (fun c => G0 c ≠ none) G0 a (ns.map V.int) → HOk P w G0 s₁.heap → (∀ c, G0 c ≠ none → c = a) → (G0 a ≠ none → K.lookup a = none) →
      codeAny (model P w) callerA (.call (.ref fa) ⟨[.ref a], []⟩) (fun r s' => r = .ok (.ret (.bool true)) ∧ OldK s₁.heap s'.heap ∧ s'.os = s₁.os ∧ AllBare s'.gens) s₁ := fun G0 only scr ok atA notK => by
    -- the module's objects are not the script
    have apart : ∀ {c : Addr} {o : Obj}, s₁.heap.get? c = some o → (c = a → G0 a = none) → (hidT s₁.heap G0).get? c = some o := fun {c o} e n => by
      refine hidT_get e ?_
      cases z : G0 c with
      | none => rfl
      | some u =>
        have ca := atA c (by rw [z]; exact fun q => nomatch q)
        rw [ca, n ca] at z
        cases z
    have nspace : ∀ {c : Addr} {mm : Str → Option Value}, s₁.heap.Ns c mm → (hidT s₁.heap G0).Ns c mm := fun {c mm} z => by
      obtain ⟨o, es, ep, e, d, r⟩ := z
      refine ⟨o, es, ep, apart e fun ca => ?_, d, r⟩
      rw [ca, ha] at e
      cases e
      cases (show Data.seq vs.toArray _ = Data.dict es ep from d)
    have kIn : K.In (hidT s₁.heap G0) := fun c o e => apart (KX c o e) fun ca => by
      cases z : G0 a with
      | none => rfl
      | some u =>
        have := notK (by rw [z]; exact fun q => nomatch q)
        rw [ca, this] at e
        cases e
    have limit : (hidT s₁.heap G0).NoLimit := by
      obtain ⟨mc, z1, z2⟩ := hlim
      exact ⟨mc, nspace z1, z2⟩
    have ground : Env0 P w K mg (hidT s₁.heap G0) callerA [] s₁ G0 := ⟨rfl, ⟨kIn, nspace hns, ⟨mb, nspace hb, hbb⟩, limit⟩, fun c o e => of_hidT e, Nat.le_of_eq (hidT_size _ _), trivial, fun c z => absurd (show c ∈ ([] : List Addr) from z) (by simp), ok, AllBare.of_eq hg⟩
    obtain ⟨ds, em⟩ := hm
    have start : spD K mg [.fz] .fz m [.ref a] G0 (fun v _ => v = .bl true) (fun _ _ _ => False) := by
      refine ⟨rfl, fun c => G0 c ≠ none, [], [.scr ns], ⟨fun _ z => z, fun _ z => (nomatch z), List.nodup_nil, fun _ z => (nomatch z)⟩, ⟨[], [], ⟨.scr scr, rfl⟩, rfl, rfl⟩, ?_⟩
      rw [em]
      intro v H' F' A' B _ _ _ o
      cases o.1
      rfl
    have sys : SysOk (hidT s₁.heap G0) := by
      obtain ⟨o, e, c⟩ := hsys
      refine ⟨o, apart e fun ca => ?_, c⟩
      rw [ca, ha] at e
      cases e
      simp at c
    have ran := (F _ kIn (nspace hns) sys).run callerA [] s₁ G0 ⟨[.ref a], []⟩ [.ref a] [.ref a] _ _ hr rfl ground (hbind s₁ (.ref a)) (.cons rfl .nil) start
    refine codeAny_mono ran fun r s' z => ?_
    match r, z with
    | .error e, z =>
      obtain ⟨_, _, _, _, _, _, _, _, _, _, _, _, f⟩ := z
      exact f.elim
    | .ok (.ret u), ⟨v, H', z1, z2, z3, z4, z5, z6⟩ =>
      have ev : v = .bl true := z6
      subst ev
      have eu : u = Value.bool true := z5
      subst eu
      refine ⟨rfl, .of_keep fun c o e => ?_, z1, z2⟩
      rcases only c with q | ⟨o2, xs, q⟩
      · exact z3.keep c o e q (fun f => absurd (show c ∈ ([] : List Addr) from f) (by simp)) (by simp)
      · have k1 := (ok c _ q).1
        have k2 := (z4 c _ (z3.frzs c o2 _ q)).1
        rw [e] at k1
        cases k1
        exact k2
  cases look : K.lookup a with
  | some o =>
    have e := KX a o look
    rw [ha] at e
    cases e
    exact byH (fun _ => none) (fun _ => .inl rfl) (.inr ⟨_, _, _, look, rfl, rfl, rfl, by rw [List.size_toArray, hi.length]; exact hl, relS⟩) (fun c u z => nomatch (show (none : Option HO) = some u from z)) (fun c z => absurd rfl z) (fun z => absurd rfl z)
  | none =>
    have self : (fun c => if c = a then some (HO.frz { cls := .type "list", data := .seq vs.toArray } (.lst (ns.map V.int))) else none) a = some (.frz { cls := .type "list", data := .seq vs.toArray } (.lst (ns.map V.int))) := if_pos rfl
    refine byH (fun c => if c = a then some (.frz { cls := .type "list", data := .seq vs.toArray } (.lst (ns.map V.int))) else none) (fun c => ?_) (.inl ⟨(by intro q; cases self.symm.trans q), .inr ⟨_, self⟩⟩) (fun c u z => ?_) (fun c z => ?_) fun _ => look
    · by_cases ca : c = a
      · exact .inr ⟨_, _, if_pos ca⟩
      · exact .inl (if_neg ca)
    · by_cases ca : c = a
      · subst ca
        rw [self] at z
        cases z
        exact ⟨ha, by rw [List.length_map]; exact hl, vs, _, relS, ha⟩
      · cases (if_neg ca).symm.trans z
    · by_cases ca : c = a
      · exact ca
      · exact absurd (if_neg ca) z
/-- a law: K and the def's promise are given at each heap behind the top -/
theorem law_holds {l : PySem.W.OpenLaw} {n k : Nat} {q : Program} {loose : List Str} {XP : (Str → Option Value) → Heap → Prop} {YP : World → Heap → Prop} {d : DefRec} {x : Str}
    (hn : l.most = some n) (hn2 : n ≤ sizeLine) (hdf : d.params.defaults = []) (hr : Room k callerA) (m : Mf)
    (F : ∀ (w : World) (mg : Str → Option Value) (fa : Addr) (h : Heap), YP w h → h.Ns mainGlobals mg → mg d.name = some (.ref fa) →
      ∃ (K : PySem.W.Frag) (fd : FuncData), K.In h ∧ SysOk h ∧ (∀ (s : Shared) (u : Value), BindsTo s fd ⟨[u], []⟩ [(x, u)]) ∧ ∀ base : Heap, K.In base → base.Ns mainGlobals mg → SysOk base → FnG l.prog w K mg base k fa fd [x] (spD K mg [.fz] .fz m))
    (hm : ∀ ns : List Int, ns.length ≤ n → (∀ z ∈ ns, Builtin.Int.intBits z ≤ 1048576) → ∃ ds, m [.scr ns] = .ok (.bl true) ds) :
    PySem.W.WalkO q loose XP YP l.row.toRowW d [] (fun f vs => PySem.call f vs) := by
  refine Att.attach_callB hn hdf fun w s₀ s₁ mg mb fa o pm cd doc a vs ns G Y ho hd hcd hmg hobj hints hlen hbits hg => ?_
  obtain ⟨K, fd, KX, hsys, hb, hF⟩ := F w mg fa _ Y G.T.g hmg
  exact law_run KX G.T.g G.T.b G.T.builtins G.T.nolimit hg hobj hints (Nat.le_trans hlen hn2) hr hsys hF hb (hm ns hlen hbits)

/-! ### what the head tells -/
def sysB (g : Addr → Option Obj) : Bool := match g sysModules with
  | some ⟨.type c, _, _, _⟩ => c == "dict"
  | _ => false
theorem sysB_ok {h : Heap} (e : sysB h.get? = true) : SysOk h := by
  unfold sysB at e
  cases q : h.get? sysModules with
  | none => rw [q] at e; cases e
  | some o =>
    obtain ⟨c, d, dt, sl⟩ := o
    rw [q] at e
    cases c with
    | type c =>
      have e' : c = "dict" := by simpa using e
      subst e'
      exact ⟨_, q, rfl⟩
    | _ => cases e
abbrev obsM (n : Nat) (fa : List He.Fa) (fn : List He.DefD) (ts : List He.Tab) (ex : PySem.W.Frag → Bool) (g : Addr → Option Obj) : He.AlX × Bool := (He.obsX n fa fn ts [] ex g, sysB g)
def hookM (n : Nat) (fa : List He.Fa) (fn : List He.DefD) (ts : List He.Tab) (ex : PySem.W.Frag → Bool) : PySem.W.Hook where
  α := He.AlX × Bool
  obs := fun s => obsM n fa fn ts ex s.heap.get?
  val := fun w => (He.valX fn ts w, true)
  says := fun w h => ∃ K : PySem.W.Frag, K.In h ∧ He.SaysX fa fn ts [] ex w h K ∧ SysOk h
  of := fun _ _ e => ⟨_, He.frT_in, He.saysX_of (congrArg (fun z : He.AlX × Bool => z.1) e), sysB_ok (congrArg (fun z : He.AlX × Bool => z.2) e)⟩
  keeps := fun _ _ _ ⟨K, hK, c, s⟩ k => ⟨K, PySem.W.Frag.In.keeps hK k, ⟨c.t, c.more, c.hd, c.out, fun p hp => k _ _ (c.empty p hp)⟩, s.keeps k⟩
theorem obsM_eq {n : Nat} {fa : List He.Fa} {fn : List He.DefD} {ts : List He.Tab} {ex : PySem.W.Frag → Bool} {g : Addr → Option Obj} {s : Shared} (h : ∀ a, g a = s.heap.get? a) : obsM n fa fn ts ex g = (hookM n fa fn ts ex).obs s := by
  have e : g = s.heap.get? := funext h
  rw [e] <;> rfl
end DM
/-! DmM: data read by the library; built-in functions, methods of texts. -/
namespace DM
open PySem PySem.Spec PyProof.Rows L2

/-! ### data, as the library reads it -/
section
variable {X : Cx} {pins : List (Addr × Obj)} {σ : L2.St} {H : Hp} {F : FS} {s : Shared}
theorem not_sys {h : Heap} {a : Addr} {o : Obj} (x : SysOk h) (e : h.get? a = some o) (c : o.cls ≠ .type "dict") : sysModules ≠ a := fun z => by
  obtain ⟨o', e', c'⟩ := x
  rw [z, e] at e'
  cases e'
  exact c c'
theorem key_rd {k : Key} {d : D} {u : Value} (r : RelV (kV k) u) (x : KeyD k d) : Reads s.heap u d.py [] := by
  cases x with
  | int i => obtain ⟨t, rfl⟩ := r; exact .int i t
  | str y => obtain ⟨t, rfl⟩ := r; exact .str y t
theorem keys_rd : ∀ {ks : List Key} {ds : List D} {us : List Value}, Vals (ks.map kV) us → KeysD ks ds → ReadsAll s.heap us (pyAll ds) []
  | [], [], _, .nil, .nil => .nil
  | _ :: _, _ :: _, _, .cons r rs, .cons x xs => .cons (key_rd r x) (keys_rd rs xs)
theorem keyIs_rel {k : Key} {u : Value} (h : keyIs k u = true) : RelV (kV k) u := by
  rcases key_is h with ⟨i, t, rfl, rfl⟩ | ⟨x, t, rfl, rfl⟩
  · exact ⟨t, rfl⟩
  · exact ⟨t, rfl⟩
mutual
theorem Rp.rd (I : Inv X pins σ H s) (hs : SysOk s.heap) : ∀ {v d u}, Rp X.K F H v d → RelV v u → d.plain = true → ∃ as, Reads s.heap u d.py as ∧ sysModules ∉ as
  | _, _, u, .v x, r, p => by
    cases x with
    | non => cases r; exact ⟨[], .none, by simp⟩
    | bl b => cases r; exact ⟨[], .bool b, by simp⟩
    | int i => obtain ⟨t, rfl⟩ := r; exact ⟨[], .int i t, by simp⟩
    | str z => obtain ⟨t, rfl⟩ := r; exact ⟨[], .str z t, by simp⟩
    | byt b => cases p
    | flt b => cases p
    | ref b => cases p
    | ty b => cases p
  | _, _, u, .lst (a := a) f h rs, r, p => by
    cases r
    obtain ⟨its, n, rv, e, hz⟩ := I.lst h
    obtain ⟨as, q, na⟩ := Rps.rd I hs rs rv p
    refine ⟨a :: as, .list e rfl rfl (by simpa using q), fun z => ?_⟩
    rcases List.mem_cons.mp z with z | z
    · exact not_sys hs e (fun z => by simp at z) z
    · exact na z
  | _, _, u, .tup (a := a) h rs, r, p => by
    cases r
    obtain ⟨its, rv, ⟨o, e, c, n, d⟩, hz⟩ := I.tuple h.sq
    obtain ⟨as, q, na⟩ := Rps.rd I hs rs rv p
    exact ⟨as, .tuple e c d (by simpa using q), na⟩
  | _, _, u, .dK (a := a) f h rs, r, p => by
    cases r
    obtain ⟨hz, hd, vs, rel, o, es, ep, e, ex, dt, _, ps, _⟩ := dk_rd I.hok h
    obtain ⟨as, q1, q2, na⟩ := RpK.rd I hs rs rel p
    have conv : ∀ {l : List DictEntry} {vs : List (Key × Value)}, Pairs (mixKind X.prog X.w) l vs → ∃ us, Paired (fun (p : Key × Value) (u : Value) => keyIs p.1 u = true) vs us ∧ l.map (·.key) = us ∧ l.map (·.val) = vs.map (·.2) := fun {l vs} hp => by
      induction hp with
      | nil => exact ⟨[], .nil, rfl, rfl⟩
      | cons h1 h0 h2 ih =>
        obtain ⟨us, a1, a2, a3⟩ := ih
        exact ⟨_, .cons h1 a1, by rw [List.map_cons, a2], by rw [List.map_cons, List.map_cons, a3, h0]⟩
    obtain ⟨us, a1, a2, a3⟩ := conv ps
    refine ⟨a :: [] ++ as, .dict e ex.1 dt (by rw [a2]; exact q1 us a1) (by rw [a3]; exact q2), fun z => ?_⟩
    rcases List.mem_cons.mp z with z | z
    · rw [← z] at hd; cases hd
    · exact na z
  | _, _, u, .dT (a := a) f h rs, r, p => by
    cases r
    obtain ⟨hz, hd, xs, rel, o, es, ep, e, ex, dt, eq, _⟩ := dt_rd I.hok h
    obtain ⟨as, q1, q2, na⟩ := RpT.rd I hs rs rel p
    refine ⟨a :: [] ++ as, .dict e ex.1 dt ?_ ?_, fun z => ?_⟩
    · rw [eq, List.map_map]; exact q1
    · rw [eq, List.map_map]; exact q2
    · rcases List.mem_cons.mp z with z | z
      · rw [← z] at hd; cases hd
      · exact na z
  | _, _, u, .scr (a := a) (ns := ns) h, r, p => by
    cases r
    obtain ⟨its, rv, pl, hz⟩ := I.list h.sq
    obtain ⟨o, n, e, c, _, d⟩ := pl
    have rdi : ∀ (ns : List Int) (us : List Value), Vals (ns.map V.int) us → ReadsAll s.heap us (ns.map PyData.int) [] := fun ns => by
      induction ns with
      | nil => intro us h; cases h; exact .nil
      | cons n ns ih =>
        intro us h
        cases h with
        | cons r rr =>
          obtain ⟨t, rfl⟩ := r
          exact .cons (.int n t) (ih _ rr)
    refine ⟨a :: [], .list e c d (by simpa using rdi ns its rv), fun z => ?_⟩
    rcases List.mem_cons.mp z with z | z
    · exact not_sys hs e (fun z => by rw [c] at z; simp at z) z
    · cases z
theorem Rps.rd (I : Inv X pins σ H s) (hs : SysOk s.heap) : ∀ {vs ds us}, Rps X.K F H vs ds → Vals vs us → plainAll ds = true → ∃ as, ReadsAll s.heap us (pyAll ds) as ∧ sysModules ∉ as
  | _, _, _, .nil, .nil, _ => ⟨[], .nil, by simp⟩
  | _, _, _, .cons h rs, .cons r rr, p => by
    obtain ⟨p1, p2⟩ := Bool.and_eq_true_iff.mp (show (_ && _) = true from p)
    obtain ⟨as, q1, n1⟩ := Rp.rd I hs h r p1
    obtain ⟨bs, q2, n2⟩ := Rps.rd I hs rs rr p2
    exact ⟨_, .cons q1 q2, fun z => (List.mem_append.mp z).elim n1 n2⟩
theorem RpK.rd (I : Inv X pins σ H s) (hs : SysOk s.heap) : ∀ {kvs ds} {vs : List (Key × Value)}, RpK X.K F H kvs ds → KV kvs vs → plainKv ds = true →
    ∃ as, (∀ us, Paired (fun (p : Key × Value) (u : Value) => keyIs p.1 u = true) vs us → ReadsAll s.heap us ((pyKv ds).map (·.1)) []) ∧ ReadsAll s.heap (vs.map (·.2)) ((pyKv ds).map (·.2)) as ∧ sysModules ∉ as
  | _, _, _, .nil, .nil, _ => ⟨[], fun us h => by cases h; exact .nil, .nil, by simp⟩
  | _, _, _, .cons hk h rs, .cons r rr, p => by
    obtain ⟨p1, p3⟩ := Bool.and_eq_true_iff.mp (show (_ && _) = true from p)
    obtain ⟨p1, p2⟩ := Bool.and_eq_true_iff.mp p1
    obtain ⟨as, q1, n1⟩ := Rp.rd I hs h r.2 p2
    obtain ⟨bs, q2, q3, n2⟩ := RpK.rd I hs rs rr p3
    refine ⟨_, fun us hu => ?_, .cons q1 q3, fun z => (List.mem_append.mp z).elim n1 n2⟩
    cases hu with
    | cons a b =>
      have e := keyIs_rel a
      rw [← r.1] at e
      exact .cons (key_rd e hk) (q2 _ b)
theorem RpT.rd (I : Inv X pins σ H s) (hs : SysOk s.heap) : ∀ {kvs ds} {xs : List (List Key × Addr × Value)}, RpT X.K F H kvs ds → Paired (fun (p : List Key × V) (q : List Key × Addr × Value) => p.1 = q.1 ∧ H q.2.1 = some (.tup (p.1.map kV)) ∧ RelV p.2 q.2.2) kvs xs → plainKv ds = true →
    ∃ as, ReadsAll s.heap (xs.map ((·.key) ∘ entryOfKey (tupleKind (mixKind X.prog X.w)))) ((pyKv ds).map (·.1)) [] ∧ ReadsAll s.heap (xs.map ((·.val) ∘ entryOfKey (tupleKind (mixKind X.prog X.w)))) ((pyKv ds).map (·.2)) as ∧ sysModules ∉ as
  | _, _, _, .nil, .nil, _ => ⟨[], .nil, .nil, by simp⟩
  | _, _, _, .cons hk h rs, .cons r rr, p => by
    obtain ⟨p1, p3⟩ := Bool.and_eq_true_iff.mp (show (_ && _) = true from p)
    obtain ⟨p1, p2⟩ := Bool.and_eq_true_iff.mp p1
    obtain ⟨as, q1, n1⟩ := Rp.rd I hs h r.2.2 p2
    obtain ⟨bs, q2, q3, n2⟩ := RpT.rd I hs rs rr p3
    obtain ⟨_, its, rv, o, e, c, n, d⟩ := I.hok _ _ r.2.1
    have kr : Reads s.heap (.ref _) (PyData.tuple _) [] := .tuple e c d (by simpa using keys_rd rv hk)
    exact ⟨_, ReadsAll.cons (as := []) (bs := []) kr q2, .cons q1 q3, fun z => (List.mem_append.mp z).elim n1 n2⟩
end
end

/-! ### built-in functions: a value of what stands now -/
def VCallV (K : PySem.W.Frag) (r : List V → Hp → VK → Prop) (f : List D → Option V) : Prop :=
  ∀ H xs es v (Q : VK), Rps K (fun _ => True) H xs es → f es = some v → Q v H → r xs H Q
/-- arguments as they stand -/
def DAc (X : Cx) (W : WX) (p : Bool) (G : List Sh) (es : List Expr) (m : Mi (List D)) : Prop := ∃ t, PA X es t ∧ Tl X W p (fun F H vs ds => Rps X.K (fun _ => True) H vs ds) G t m
def eB (f : List D → Option V) (ma : Mi (List D)) : Mi D := bnd ma fun es => lift ((f es).map D.v)
theorem Rps.rc {K : PySem.W.Frag} {F : FS} {H : Hp} {vs ds} (h : Rps K F H vs ds) : Rps K (fun _ => True) H vs ds := h.mono ⟨fun _ _ => trivial, fun _ _ _ h => h, fun _ _ _ h => h⟩
theorem Rps.later {K : PySem.W.Frag} {F F1 : FS} {H H1 : Hp} {vs ds} (s : Pst F H F1 H1) (r : Rps K (fun _ => True) H vs ds) : Rps K (fun _ => True) H1 vs ds :=
  r.mono ⟨fun _ h => h, fun a xs _ h => s.keep a _ h, fun a u _ h => Rd.mono_of (fun o e => s.keep a o e) h⟩
section
variable {X : Cx} {W : WX} {p p1 p2 p3 : Bool} {G : List Sh} {e a b c o : Expr} {es : List Expr} {pos q apos cpos : Pos} {x name : Str} {id T : String} {r : List V → Hp → VK → Prop} {f : List D → Option V} {ma : Mi (List D)}
theorem dac_nil : DAc X W true G [] aNil := ⟨_, pa_nil, fun F H A σ ρ Q wf en hp => hp.fin0 wf en .nil⟩
/-- the last one -/
theorem dac_one {m : Mi D} (h : DC X W p G e m) (hs : starEach [e] X.env = (false, eval e X.env) :: starEach [] X.env := by rfl) : DAc X W (p && (true && true)) G [e] (aCons m aNil) := by
  obtain ⟨t, pe, l⟩ := h
  refine ⟨_, pa_cons pe pa_nil hs, fun F H A σ ρ Q wf en hp => ?_⟩
  refine l.use wf en hp fun d1 ρ1 x H1 F1 A1 s1 wf1 en1 r1 _ hp => ?_
  exact hp.fin0 wf1 en1 (.cons r1 .nil)
theorem dac_of {m : Mi (List D)} (h : DA X W p G es m) : DAc X W p G es m := by
  obtain ⟨t, pe, l⟩ := h
  refine ⟨t, pe, fun F H A σ ρ Q wf en hp => l F H A σ ρ Q wf en ?_⟩
  cases e : m ρ with
  | ok a ρ' => rw [e] at hp; exact fun b H' F' A' st wf' en' r pp => hp b H' F' A' st wf' en' r.1.rc pp
  | exc x ρ' => rw [e] at hp; exact hp
  | bad => rw [e] at hp; exact hp
/-- one as it stands, the others change nothing -/
theorem dac_cons {m : Mi D} {ms : Mi (List D)} (h1 : DC X W p1 G e m) (h2 : DAc X W true G es ms) (hs : starEach (e :: es) X.env = (false, eval e X.env) :: starEach es X.env := by rfl) : DAc X W (p1 && (true && true)) G (e :: es) (aCons m ms) := by
  obtain ⟨t1, pe1, l1⟩ := h1
  obtain ⟨t2, pe2, l2⟩ := h2
  refine ⟨_, pa_cons pe1 pe2 hs, fun F H A σ ρ Q wf en hp => ?_⟩
  refine l1.use wf en hp fun d1 ρ1 x H1 F1 A1 s1 wf1 en1 r1 _ hp => ?_
  refine l2.use wf1 en1 hp fun d2 ρ2 y H2 F2 A2 s2 wf2 en2 r2 ps hp => ?_
  exact hp.fin0 wf2 en2 (.cons (Rc.later (ps rfl) r1) r2)
theorem de_b (hc : CallR X (.builtin id) r) (hf : VCallV X.K r f) (hg : Gl X x) (hm : X.mg x = none) (hv : bootBuiltins x = some (.builtin id)) (ha : DAc X W p G (e :: es) ma) (hn : x ≠ "__name__" := by decide) (hdb : (x == ("__debug__" : Str)) = false := by decide)
    (he : starEach (e :: es) X.env = (false, eval e X.env) :: starEach es X.env := by rfl) (hpl : (backTo pos (starEach es X.env)).any (·.1) = false := by rfl) : DE X W (p && true) G (.Call (.Name x q) (e :: es) [] pos) (eB f ma) := by
  obtain ⟨t, pe, l⟩ := ha
  refine ⟨_, pe_callB hc hg hm hv pe hn hdb he hpl, fun F H A σ ρ Q wf en hp => ?_⟩
  refine l.use wf en hp fun d1 ρ1 x H1 F1 A1 s1 wf1 en1 r1 _ hp => ?_
  obtain ⟨d, e, hp⟩ := hp.lift
  obtain ⟨v, e1, e2⟩ := Option.map_eq_some_iff.mp e
  subst e2
  exact hf H1 x d1 v Q r1 e1 (hp.fin0 wf1 en1 (.v _))
theorem de_ty (hc : CallR X (.type T) r) (hf : VCallV X.K r f) (hg : Gl X x) (hm : X.mg x = none) (hv : bootBuiltins x = some (.type T)) (ha : DAc X W p G (e :: es) ma) (hn : x ≠ "__name__" := by decide) (hdb : (x == ("__debug__" : Str)) = false := by decide)
    (he : starEach (e :: es) X.env = (false, eval e X.env) :: starEach es X.env := by rfl) (hpl : (backTo pos (starEach es X.env)).any (·.1) = false := by rfl) : DE X W (p && true) G (.Call (.Name x q) (e :: es) [] pos) (eB f ma) := by
  obtain ⟨t, pe, l⟩ := ha
  refine ⟨_, pe_callTy hc hg hm hv pe hn hdb he hpl, fun F H A σ ρ Q wf en hp => ?_⟩
  refine l.use wf en hp fun d1 ρ1 x H1 F1 A1 s1 wf1 en1 r1 _ hp => ?_
  obtain ⟨d, e, hp⟩ := hp.lift
  obtain ⟨v, e1, e2⟩ := Option.map_eq_some_iff.mp e
  subst e2
  exact hf H1 x d1 v Q r1 e1 (hp.fin0 wf1 en1 (.v _))
/-- a built-in type as a value -/
theorem de_bty {n : String} (hg : Gl X x) (hm : X.mg x = none) (hv : bootBuiltins x = some (.type n)) (hn : x ≠ "__name__" := by decide) (hd : (x == ("__debug__" : Str)) = false := by decide) : DE X W true G (.Name x pos) (eK (.v (.ty n))) :=
  ⟨_, pe_bltn (v := .ty n) hg hm hv rfl hn hd, fun F H A σ ρ Q wf en hp => hp.fin0 wf en (.v _)⟩

/-! len, abs, .. -/
def bLen : List D → Option V
  | [.lst xs] => some (.int xs.length)
  | [.tup xs] => some (.int xs.length)
  | [.scr xs] => some (.int xs.length)
  | [.v (.str s)] => if s.length ≤ 16777216 then some (.int s.length) else none
  | _ => none
theorem rps1 {K : PySem.W.Frag} {F : FS} {H : Hp} {xs : List V} {d : D} (r : Rps K F H xs [d]) : ∃ v, xs = [v] ∧ Rp K F H v d := by
  cases r with
  | cons r1 r2 => cases r2; exact ⟨_, rfl, r1⟩
theorem rps2 {K : PySem.W.Frag} {F : FS} {H : Hp} {xs : List V} {d d2 : D} (r : Rps K F H xs [d, d2]) : ∃ v w, xs = [v, w] ∧ Rp K F H v d ∧ Rp K F H w d2 := by
  cases r with
  | cons r1 r2 =>
    obtain ⟨w, rfl, r3⟩ := rps1 r2
    exact ⟨_, w, rfl, r1, r3⟩
theorem vb_len : VCallV X.K (fun xs H Q => ∃ x n, xs = [x] ∧ LenV X.K x H n ∧ Q (.int n) H) bLen := by
  intro H xs es v Q r e k
  unfold bLen at e
  split at e
  · cases e
    obtain ⟨u, rfl, t⟩ := rps1 r
    cases t with
    | lst f h r => exact ⟨_, _, rfl, .inl ⟨_, SqL.of h, rfl⟩, by rw [r.length]; exact k⟩
  · cases e
    obtain ⟨u, rfl, t⟩ := rps1 r
    cases t with
    | tup h r => exact ⟨_, _, rfl, .inr ⟨_, h.sq, rfl⟩, by rw [r.length]; exact k⟩
  · cases e
    obtain ⟨u, rfl, t⟩ := rps1 r
    cases t with
    | scr h => exact ⟨_, _, rfl, .inl ⟨_, h.sq, rfl⟩, by rw [List.length_map]; exact k⟩
  · split at e
    · cases e
      obtain ⟨u, rfl, t⟩ := rps1 r
      cases t
      exact ⟨_, _, rfl, ⟨by rw [szl]; assumption, rfl⟩, k⟩
    · cases e
  · cases e
def bAbs : List D → Option V
  | [.v (.int i)] => some (.int (if i < 0 then -i else i))
  | _ => none
theorem vb_abs {K : PySem.W.Frag} : VCallV K (fun xs H Q => ∃ i, xs = [.int i] ∧ Q (.int (if i < 0 then -i else i)) H) bAbs := by
  intro H xs es v Q r e k
  unfold bAbs at e
  split at e
  · cases e
    obtain ⟨u, rfl, t⟩ := rps1 r
    cases t
    exact ⟨_, rfl, k⟩
  · cases e
def bMin : List D → Option V
  | [.v (.int i), .v (.int j)] => some (.int (if j < i then j else i))
  | _ => none
def bMax : List D → Option V
  | [.v (.int i), .v (.int j)] => some (.int (if j > i then j else i))
  | _ => none
theorem vb_min {K : PySem.W.Frag} : VCallV K (fun xs H Q => ∃ i j, xs = [.int i, .int j] ∧ Q (.int (if j < i then j else i)) H) bMin := by
  intro H xs es v Q r e k
  unfold bMin at e
  split at e
  · cases e
    obtain ⟨u, w, rfl, t, t2⟩ := rps2 r
    cases t; cases t2
    exact ⟨_, _, rfl, k⟩
  · cases e
theorem vb_max {K : PySem.W.Frag} : VCallV K (fun xs H Q => ∃ i j, xs = [.int i, .int j] ∧ Q (.int (if j > i then j else i)) H) bMax := by
  intro H xs es v Q r e k
  unfold bMax at e
  split at e
  · cases e
    obtain ⟨u, w, rfl, t, t2⟩ := rps2 r
    cases t; cases t2
    exact ⟨_, _, rfl, k⟩
  · cases e
/-- lists of truth values, of whole numbers, of texts -/
def asBs : List D → Option (List Bool)
  | [] => some []
  | d :: ds => (asB d).bind fun b => (asBs ds).map (b :: ·)
def asIs : List D → Option (List Int)
  | [] => some []
  | d :: ds => (asI d).bind fun b => (asIs ds).map (b :: ·)
def asS : D → Option Str
  | .v (.str s) => some s
  | _ => none
def asSs : List D → Option (List Str)
  | [] => some []
  | d :: ds => (asS d).bind fun b => (asSs ds).map (b :: ·)
theorem bs_of {K : PySem.W.Frag} {F : FS} {H : Hp} : ∀ {vs ds bs}, Rps K F H vs ds → asBs ds = some bs → vs = bs.map V.bl
  | _, _, bs, .nil, e => by cases e; rfl
  | _, _, bs, .cons r rs, e => by
    obtain ⟨b, h1, h2⟩ := Option.bind_eq_some_iff.mp e
    obtain ⟨l, h3, h4⟩ := Option.map_eq_some_iff.mp h2
    subst h4
    rw [asB_v r h1, bs_of rs h3]; rfl
theorem is_of {K : PySem.W.Frag} {F : FS} {H : Hp} : ∀ {vs ds bs}, Rps K F H vs ds → asIs ds = some bs → vs = bs.map V.int
  | _, _, bs, .nil, e => by cases e; rfl
  | v :: _, _, bs, .cons r rs, e => by
    obtain ⟨b, h1, h2⟩ := Option.bind_eq_some_iff.mp e
    obtain ⟨l, h3, h4⟩ := Option.map_eq_some_iff.mp h2
    subst h4
    have : v = V.int b := by
      unfold asI at h1
      split at h1
      · cases h1; cases r; rfl
      · cases h1
    rw [this, is_of rs h3]; rfl
theorem ss_of {K : PySem.W.Frag} {F : FS} {H : Hp} : ∀ {vs ds bs}, Rps K F H vs ds → asSs ds = some bs → vs = bs.map V.str
  | _, _, bs, .nil, e => by cases e; rfl
  | v :: _, _, bs, .cons r rs, e => by
    obtain ⟨b, h1, h2⟩ := Option.bind_eq_some_iff.mp e
    obtain ⟨l, h3, h4⟩ := Option.map_eq_some_iff.mp h2
    subst h4
    have : v = V.str b := by
      unfold asS at h1
      split at h1
      · cases h1; cases r; rfl
      · cases h1
    rw [this, ss_of rs h3]; rfl
def bAll : List D → Option V
  | [.lst ds] => (asBs ds).map fun bs => .bl (bs.all _root_.id)
  | _ => none
def bAny : List D → Option V
  | [.lst ds] => (asBs ds).map fun bs => .bl (bs.any _root_.id)
  | _ => none
def bSum : List D → Option V
  | [.lst ds] => (asIs ds).map fun bs => .int bs.sum
  | [.scr ns] => some (.int ns.sum)
  | _ => none
theorem vb_all {K : PySem.W.Frag} : VCallV K (rAll K) bAll := by
  intro H xs es v Q r e k
  unfold bAll at e
  split at e
  · obtain ⟨bs, h1, h2⟩ := Option.map_eq_some_iff.mp e
    subst h2
    obtain ⟨u, rfl, t⟩ := rps1 r
    cases t with
    | lst f h r => exact ⟨_, bs, rfl, SqL.of (by rw [← bs_of r h1]; exact h), k⟩
  · cases e
theorem vb_any {K : PySem.W.Frag} : VCallV K (rAny K) bAny := by
  intro H xs es v Q r e k
  unfold bAny at e
  split at e
  · obtain ⟨bs, h1, h2⟩ := Option.map_eq_some_iff.mp e
    subst h2
    obtain ⟨u, rfl, t⟩ := rps1 r
    cases t with
    | lst f h r => exact ⟨_, bs, rfl, SqL.of (by rw [← bs_of r h1]; exact h), k⟩
  · cases e
theorem vb_sum {K : PySem.W.Frag} : VCallV K (rSum K) bSum := by
  intro H xs es v Q r e k
  unfold bSum at e
  split at e
  · obtain ⟨bs, h1, h2⟩ := Option.map_eq_some_iff.mp e
    subst h2
    obtain ⟨u, rfl, t⟩ := rps1 r
    cases t with
    | lst f h r => exact ⟨_, bs, rfl, SqL.of (by rw [← is_of r h1]; exact h), k⟩
  · cases e
    obtain ⟨u, rfl, t⟩ := rps1 r
    cases t with
    | scr h => exact ⟨_, _, rfl, h.sq, k⟩
  · cases e
def bStrI : List D → Option V
  | [.v (.int i)] => if i.natAbs.log2 < 1920 then some (.str (toString i)) else none
  | _ => none
theorem vb_strI {K : PySem.W.Frag} : VCallV K (fun xs H Q => ∃ i : Int, xs = [.int i] ∧ i.natAbs.log2 < 1920 ∧ Q (.str (toString i)) H) bStrI := by
  intro H xs es v Q r e k
  unfold bStrI at e
  split at e
  · split at e
    · cases e
      obtain ⟨u, rfl, t⟩ := rps1 r
      cases t
      exact ⟨_, rfl, by assumption, k⟩
    · cases e
  · cases e

/-! isinstance -/
def tyN : D → Option String
  | .v x => match x with
    | .non => some "NoneType"
    | .bl _ => some "bool"
    | .int _ => some "int"
    | .str _ => some "str"
    | _ => none
  | .lst _ => some "list"
  | .tup _ => some "tuple"
  | .dct _ => some "dict"
  | .scr _ => some "list"
def isTy (n m : String) : Bool := n == m || (n == "bool" && m == "int")
def bIsi : List D → Option V
  | [d, .v (.ty m)] => (tyN d).bind fun n => if ["int", "str", "bool", "list", "tuple", "dict"].contains m then some (.bl (isTy n m)) else none
  | _ => none
def rIsD (K : PySem.W.Frag) : List V → Hp → VK → Prop := fun xs H Q => ∃ x d n m, xs = [x, .ty m] ∧ Rp K (fun _ => True) H x d ∧ tyN d = some n ∧ ["int", "str", "bool", "list", "tuple", "dict"].contains m = true ∧ Q (.bl (isTy n m)) H
theorem kit_all : (["NoneType", "bool", "int", "str", "list", "tuple", "dict"].all fun n => ["int", "str", "bool", "list", "tuple", "dict"].all fun m => kitB n m == some (isTy n m)) = true := by decide +kernel
theorem tyN_mem {d : D} {n : String} (h : tyN d = some n) : n ∈ ["NoneType", "bool", "int", "str", "list", "tuple", "dict"] := by
  cases d with
  | v x => cases x <;> first | (cases h; simp) | cases h
  | _ => cases h; simp
theorem kit_d {pins : List (Addr × Obj)} {σ : L2.St} {H : Hp} {F : FS} {s : Shared} {v : V} {u : Value} {d : D} {n : String} (I : Inv X pins σ H s) (r : RelV v u) (h : Rp X.K F H v d) (e : tyN d = some n) : ∃ P : Heap → Prop, PySem.W.KitX X.K u (.type n) P ∧ P s.heap ∧ u ≠ .builtin "__main__.__loader__#opaque" := by
  cases h with
  | v =>
    cases v with
    | non => cases e; cases r; exact ⟨_, PySem.W.kitx_none, True.intro, fun z => nomatch z⟩
    | bl b => cases e; cases r; exact ⟨_, PySem.W.kitx_bool, True.intro, fun z => nomatch z⟩
    | int i => cases e; obtain ⟨t, rfl⟩ := r; exact ⟨_, PySem.W.kitx_int, True.intro, fun z => nomatch z⟩
    | str i => cases e; obtain ⟨t, rfl⟩ := r; exact ⟨_, PySem.W.kitx_str, True.intro, fun z => nomatch z⟩
    | _ => cases e
  | lst f h rs =>
    cases e; cases r
    obtain ⟨its, k, rv, e, hz⟩ := I.lst h
    exact ⟨_, PySem.W.kitx_list, ⟨_, e, rfl⟩, fun z => nomatch z⟩
  | tup h rs =>
    cases e; cases r
    obtain ⟨its, rv, ⟨o, e, c, k, dd⟩, hz⟩ := I.tuple h.sq
    exact ⟨_, PySem.W.kitx_tuple, ⟨o, e, c⟩, fun z => nomatch z⟩
  | dK f h rs =>
    cases e; cases r
    obtain ⟨hz, hd, vs, rel, o, es, ep, e, ex, _⟩ := dk_rd I.hok h
    exact ⟨_, PySem.W.kitx_dict, ⟨o, e, ex.1⟩, fun z => nomatch z⟩
  | dT f h rs =>
    cases e; cases r
    obtain ⟨hz, hd, vs, rel, o, es, ep, e, ex, _⟩ := dt_rd I.hok h
    exact ⟨_, PySem.W.kitx_dict, ⟨o, e, ex.1⟩, fun z => nomatch z⟩
  | scr h =>
    cases e; cases r
    obtain ⟨its, rv, ⟨o, k, e, c, _, dd⟩, hz⟩ := I.list h.sq
    exact ⟨_, PySem.W.kitx_list, ⟨o, e, c⟩, fun z => nomatch z⟩
theorem call_isD : CallR X (.builtin "isinstance") (rIsD X.K) := by
  intro pins s σ H xs us Q I r h
  obtain ⟨x, d, n, m, rfl, rp, e, hm, q⟩ := h
  obtain ⟨u1, u2, rfl, r1, r2⟩ := vals2 r
  cases (show u2 = Value.type m from r2)
  obtain ⟨P, Z, p, hx⟩ := kit_d I r1 rp e
  have k1 := List.all_eq_true.mp (List.all_eq_true.mp kit_all n (tyN_mem e)) m (by simpa using hm)
  have k2 : kitB n m = some (isTy n m) := by simpa using k1
  exact PySem.W.kia_one Z I.kIn p (kit_ty k2) hx fun tk => ⟨.bl _, H, I.tok tk, rfl, q⟩
theorem vb_isi {K : PySem.W.Frag} : VCallV K (rIsD K) bIsi := by
  intro H xs es v Q r e k
  unfold bIsi at e
  split at e
  · obtain ⟨n, h1, h2⟩ := Option.bind_eq_some_iff.mp e
    split at h2
    · cases h2
      obtain ⟨u, w, rfl, t, t2⟩ := rps2 r
      cases t2
      exact ⟨u, _, n, _, rfl, t, h1, by assumption, k⟩
    · cases h2
  · cases e

/-! repr -/
def bRepr : List D → Option V
  | [d] => if d.plain = true ∧ d.py.showable = true ∧ d.py.depth ≤ 60 ∧ d.py.shown.length ≤ 16777216 then some (.str d.py.shown) else none
  | _ => none
def rRepr (K : PySem.W.Frag) : List V → Hp → VK → Prop := fun xs H Q => ∃ x d, xs = [x] ∧ Rp K (fun _ => True) H x d ∧ d.plain = true ∧ d.py.showable = true ∧ d.py.depth ≤ 60 ∧ d.py.shown.length ≤ 16777216 ∧ Q (.str d.py.shown) H
theorem call_reprD (hs : SysOk X.base) (hg : X.A.guards = some []) (hu : X.A.units + 64 < cLine) : CallR X (.builtin "repr") (rRepr X.K) := by
  intro pins s σ H xs us Q I r h
  obtain ⟨x, d, rfl, rp, hp, hsh, hdp, hsz, q⟩ := h
  obtain ⟨u, rfl, r1⟩ := Vals.one r
  obtain ⟨as, rd, na⟩ := rp.rd I (hs.keeps I.bk) r1 hp
  have hz : d.py.shown.length ≤ sizeLine := by rw [szl]; exact hsz
  cases rp with
  | v =>
    cases x with
    | non => cases r1; exact P.repr_of_none ⟨.str _, H, I.tok _, ⟨_, rfl⟩, q⟩
    | bl b => cases r1; exact P.repr_of_bool ⟨.str _, H, I.tok _, ⟨_, rfl⟩, q⟩
    | int i => obtain ⟨t, rfl⟩ := r1; exact P.repr_of_int (of_decide_eq_true hsh) ⟨.str _, H, I.tok _, ⟨_, rfl⟩, q⟩
    | str z => obtain ⟨t, rfl⟩ := r1; exact P.repr_of_str ⟨.str _, H, I.tok _, ⟨_, rfl⟩, q⟩ hz
    | _ => cases hp
  | _ =>
    cases r1
    exact PySem.repr_of_reads' rd hsh (fun _ => na) hg (by omega) (fun _ _ e => e) (fun h' u tk hk => ⟨.str _, H, I.kept hk, ⟨_, rfl⟩, q⟩) hz
theorem vb_repr {K : PySem.W.Frag} : VCallV K (rRepr K) bRepr := by
  intro H xs es v Q r e k
  unfold bRepr at e
  split at e
  · split at e
    · rename_i hh
      cases e
      obtain ⟨u, rfl, t⟩ := rps1 r
      exact ⟨u, _, rfl, t, hh.1, hh.2.1, hh.2.2.1, hh.2.2.2, k⟩
    · cases e
  · cases e

/-! ### methods of texts -/
def VStrM (K : PySem.W.Frag) (r : V → List V → Hp → VK → Prop) (f : Str → List D → Option V) : Prop :=
  ∀ H z xs es v (Q : VK), Rps K (fun _ => True) H xs es → f z es = some v → Q v H → r (.str z) xs H Q
def eSm (f : Str → List D → Option V) (mo : Mi D) (ma : Mi (List D)) : Mi D := bnd mo fun x => match asS x with
  | some z => bnd ma fun es => lift ((f z es).map D.v)
  | none => fun _ => .bad
theorem asS_v {K : PySem.W.Frag} {F : FS} {H : Hp} {v : V} {d : D} {z : Str} (r : Rp K F H v d) (h : asS d = some z) : v = .str z := by
  unfold asS at h
  split at h
  · cases h; cases r; rfl
  · cases h
theorem de_sm {rm : V → List V → Hp → VK → Prop} {fm : Str → List D → Option V} {mo : Mi D} (pa : PlainAttrs "str") (slot : Slot "str" name id) (hty : typeOf (.builtin id) = pure (.type "method_descriptor")) (hm : MtR X id rm) (hf : VStrM X.K rm fm) (ho : DE X W p1 G o mo) (ha : DAc X W p2 G (e :: es) ma)
    (hbase : attributeBase o name X.env (eval o X.env) = eval o X.env := by rfl)
    (hfew : ((backTo cpos (starEach (e :: es) X.env)).all (fun x => !x.1) && (backToKw cpos (keywordEach [] X.env)).all (fun x => x.1.isSome)
      && decide ((e :: es).length + ([] : List Keyword).length + (if ([] : List Keyword).isEmpty then 0 else 1) < 30)) = true := by rfl)
    (hline : (apos.endLine == cpos.line) = true := by rfl) (hs : starEach (e :: es) X.env = (false, eval e X.env) :: starEach es X.env := by rfl) (hplain : (backTo cpos (starEach es X.env)).any (·.1) = false := by rfl) :
    DE X W (p1 && (p2 && true)) G (.Call (.Attribute o name apos) (e :: es) [] cpos) (eSm fm mo ma) := by
  obtain ⟨to, po, lo⟩ := ho
  obtain ⟨t, pe, l⟩ := ha
  refine ⟨_, pe_bm pa slot hty hm po pe hbase hfew hline hs hplain, fun F H A σ ρ Q wf en hp => ?_⟩
  refine lo.use wf en hp fun d1 ρ1 x H1 F1 A1 s1 wf1 en1 r1 _ hp => ?_
  cases e1 : asS d1 with
  | none => simp only [e1] at hp; exact hp.elim
  | some z =>
    simp only [e1] at hp
    cases asS_v r1 e1
    refine ⟨rfl, ?_⟩
    refine l.use wf1 en1 hp fun d2 ρ2 ys H2 F2 A2 s2 wf2 en2 r2 _ hp => ?_
    obtain ⟨d, e, hp⟩ := hp.lift
    obtain ⟨v, e3, e4⟩ := Option.map_eq_some_iff.mp e
    subst e4
    exact hf H2 z ys d2 v Q r2 e3 (hp.fin0 wf2 en2 (.v _))
def smJoin : Str → List D → Option V
  | z, [.lst ds] => (asSs ds).bind fun ys => if (ys.map (·.length)).sum + ys.length * z.length ≤ 16777216 then some (.str (Txt.join z ys)) else none
  | _, _ => none
theorem vs_join {K : PySem.W.Frag} : VStrM K (fun x xs H Q => ∃ a p, ∃ ys : List Str, x = .str a ∧ xs = [.ref p] ∧ (SqL K H p (ys.map V.str) ∨ SqT K H p (ys.map V.str)) ∧
    (ys.map (·.length)).sum + ys.length * a.length ≤ 16777216 ∧ Q (.str (Txt.join a ys)) H) smJoin := by
  intro H z xs es v Q r e k
  unfold smJoin at e
  split at e
  · obtain ⟨ys, h1, h2⟩ := Option.bind_eq_some_iff.mp e
    split at h2
    · cases h2
      obtain ⟨u, rfl, t⟩ := rps1 r
      cases t with
      | lst f h r => exact ⟨z, _, ys, rfl, rfl, .inl (SqL.of (by rw [← ss_of r h1]; exact h)), by assumption, k⟩
    · cases h2
  · cases e
end

/-! ### how a def binds -/
section
variable {K : PySem.W.Frag} {x qual : Str} {params : Arguments} {body : List Stmt} {scope : Scope} {f : Addr} {fd : FuncData} {ps : List Str}
theorem kbn_ofD (Fn : FunD K x qual params body scope [] [] f fd) (n : Nat) (ks : List Str) (π : List Nat)
    (h : ∀ (kV doc pm : Value) (an : Option Addr) (cdv ct : Value) (us ws : List Value), us.length = n → ws.length = ks.length → bindArgs (PySem.W.fnOf x qual params body scope .none kV doc pm an cdv ct) ⟨us, ks.zip ws⟩ = pure (ps.zip (perm .none π (us ++ ws)))) :
    KBn K fd ps n ks (fun us ws => perm .none π (us ++ ws)) (fun vs zs => perm .non π (vs ++ zs)) := by
  obtain ⟨oc, od, dV, kV, doc, pm, an, cdv, ct, osl, rfl, lk, hcd, hD, hK⟩ := Fn.ex
  rcases hD with ⟨_, rfl⟩ | ⟨e, _⟩
  · exact ⟨fun s us ws X l1 l2 => .of_eq (h kV doc pm an cdv ct us ws l1 l2), fun r1 r2 => vals_perm (r1.append r2) π⟩
  · exact absurd rfl e
theorem kpos_ofD (Fn : FunD K x qual params body scope [] [] f fd)
    (h : ∀ (kV doc pm : Value) (an : Option Addr) (cdv ct : Value) (us : List Value), us.length = ps.length → bindArgs (PySem.W.fnOf x qual params body scope .none kV doc pm an cdv ct) ⟨us, []⟩ = pure (ps.zip us)) :
    KBn K fd ps ps.length [] (fun us ws => us) (fun vs zs => vs) := by
  obtain ⟨oc, od, dV, kV, doc, pm, an, cdv, ct, osl, rfl, lk, hcd, hD, hK⟩ := Fn.ex
  rcases hD with ⟨_, rfl⟩ | ⟨e, _⟩
  · exact ⟨fun s us ws X l1 l2 => .of_eq (h kV doc pm an cdv ct us l1), fun r1 r2 => r1⟩
  · exact absurd rfl e
end
end DM
/-! DmN: what the written derivations use. -/
namespace DM
open PySem PySem.Spec PyProof.Rows L2
theorem fa_nil {α : Type} {P : α → Prop} : ∀ j ∈ ([] : List α), P j := fun _ h => nomatch h
theorem fa_cons {α : Type} {P : α → Prop} {i : α} {l : List α} (h : P i) (t : ∀ j ∈ l, P j) : ∀ j ∈ i :: l, P j := fun j hj => by
  rcases List.mem_cons.mp hj with e | e
  · rw [e]; exact h
  · exact t j e
theorem takes_no {X : Cx} : Takes X W0 := fun _ _ ⟨_, _, _, _, _, _, _, _, _, _, _, _, _, _, _, _, w⟩ => w.elim
theorem u64 {k : Nat} {A : Around} (h : Room k A) : A.units + 64 < cLine := by have := h.un; omega
theorem u65 {k : Nat} {A : Around} (h : Room k A) : A.units + 65 < cLine := by have := h.un; omega
theorem gv_int {K : PySem.W.Frag} (i : Int) : GV K (.int i) (.int i) := fun _ _ => .v _
theorem gv_str {K : PySem.W.Frag} (i : Str) : GV K (.str i) (.str i) := fun _ _ => .v _
/-- slices of texts, tuples, lists; what comes stays -/
def slX : D → Option Int → Option Int → Option D
  | .tup xs, lo, hi => some (.tup (cutL xs lo hi))
  | .lst xs, lo, hi => some (.lst (cutL xs lo hi))
  | .v (.str s), lo, hi => if s.length ≤ sizeLine then some (.str (cutS s lo hi)) else none
  | _, _, _ => none
section
variable {X : Cx} {W : WX} {p p1 p2 p3 : Bool} {G : List Sh} {e a b c o : Expr} {es : List Expr} {pos q q2 apos cpos : Pos} {lo hi : Option Expr}
theorem de_slX {ma : Mi D} {ml mh : Mi (Option Int)} (ha : DR X W p1 G a ma) (hl : DP X W true G lo ml) (hh : DP X W true G hi mh) : DE X W (p1 && (true && (true && true))) G (.Subscript a (.Slice lo hi none q2) pos) (eSl slX ma ml mh) := by
  obtain ⟨ta, pa, la⟩ := ha
  obtain ⟨tl, pl, ll⟩ := hl
  obtain ⟨th, ph, lh⟩ := hh
  refine ⟨_, pe_slice (sl_tupA.or (sl_str.or sl_list)) pa pl ph, fun F H A σ ρ Q wf en hp => ?_⟩
  refine la.use wf en hp fun d1 ρ1 x H1 F1 A1 s1 wf1 en1 r1 _ hp => ?_
  refine ll.use wf1 en1 hp fun lo ρ2 lo' H2 F2 A2 s2 wf2 en2 el p2 hp => ?_
  refine lh.use wf2 en2 hp fun hi ρ3 hi' H3 F3 A3 s3 wf3 en3 eh p3 hp => ?_
  subst el; subst eh
  obtain ⟨d, e, hp⟩ := hp.lift
  have r3 := (r1.later (p2 rfl)).later (p3 rfl)
  unfold slX at e
  split at e
  · cases e
    rcases r3 with h | ⟨q, vs, ds, rfl, e2, h, r⟩ | ⟨q, vs, ds, rfl, e2, h, r⟩ | ⟨q, vs, ds, rfl, e2, h, r⟩
    · cases h with
      | tup h r =>
        refine .inl ⟨_, _, rfl, h.sq, fun hw => ?_, fun hw q hq => hp.fin wf3 en3 (Pst.lay hq) (rp_new_tup hq (cut_rps r _ _))⟩
        refine hp.fin0 wf3 en3 ?_
        rw [cut_whole (by rw [← r.length]; exact hw)]
        exact .tup h r
    · cases e2
    · cases e2
    · cases e2
  · cases e
    rcases r3 with h | ⟨q, vs, ds, rfl, e2, h, r⟩ | ⟨q, vs, ds, rfl, e2, h, r⟩ | ⟨q, vs, ds, rfl, e2, h, r⟩
    · cases h with
      | lst f h r => exact .inr (.inr ⟨_, _, rfl, SqL.of h, fun q hq => hp.fin wf3 en3 (Pst.lay hq) (rp_new_lst hq (cut_rps r _ _))⟩)
    · cases e2
      exact .inr (.inr ⟨_, _, rfl, SqL.of h, fun q hq => hp.fin wf3 en3 (Pst.lay hq) (rp_new_lst hq (cut_rps r _ _))⟩)
    · cases e2
    · cases e2
  · split at e
    · cases e
      rcases r3 with h | ⟨q, vs, ds, rfl, e2, h, r⟩ | ⟨q, vs, ds, rfl, e2, h, r⟩ | ⟨q, vs, ds, rfl, e2, h, r⟩
      · cases h
        exact .inr (.inl ⟨_, rfl, by assumption, hp.fin0 wf3 en3 (.v _)⟩)
      all_goals cases e2
    · cases e
  · cases e
/-- {} -/
def eDnew : Mi D := ret (.dct [])
theorem do_dnew : DO X W true (.dct .fz) G (.Dict [] [] pos) eDnew := by
  refine ⟨_, pe_dnewK, fun F H A σ ρ Q wf en hp => ?_⟩
  intro q hq
  exact PgO.new wf en hp hq ⟨q, [], [], rfl, rfl, rfl, .inl ⟨[], upd_same, rfl⟩⟩
/-- x += y: numbers, texts -/
def opIadd : D → D → Option D
  | .v (.int i), .v (.int j) => some (.int (i + j))
  | .v (.str x), .v (.str y) => if x.length + y.length ≤ sizeLine then some (.str (x ++ y)) else none
  | _, _ => none
def rIadd : R2 := fun x y H Q => rI0 (fun i j => .int (i + j)) x y H Q ∨ ∃ i j, x = .str i ∧ y = .str j ∧ i.length + j.length ≤ sizeLine ∧ Q (.str (i ++ j)) H
theorem iop_addX : OpR X (inplaceOp .Add) rIadd := iop_add.or iop_add_str
theorem vop_iadd : VOp X.K rIadd opIadd := by
  intro F H x y d1 d2 d Q w rx ry e k
  unfold opIadd at e
  split at e
  · cases rx; cases ry; cases e; exact .inl ⟨_, _, rfl, rfl, k _ H F Pst.refl (.v _)⟩
  · cases rx; cases ry
    split at e
    · cases e; exact .inr ⟨_, _, rfl, rfl, by assumption, k _ H F Pst.refl (.v _)⟩
    · cases e
  · cases e
/-- a name of the module that is a whole number, a text -/
theorem de_globI {x : Str} {i : Int} {t : Tok} (hg : Gl X x) (hm : X.mg x = some (.int i t)) (hdb : (x == ("__debug__" : Str)) = false := by decide) : DE X W true G (.Name x pos) (eK (.int i)) := de_glob (v := .int i) hg hm ⟨_, rfl⟩ (gv_int _) hdb
theorem de_globS {x : Str} {i : Str} {t : Tok} (hg : Gl X x) (hm : X.mg x = some (.str i t)) (hdb : (x == ("__debug__" : Str)) = false := by decide) : DE X W true G (.Name x pos) (eK (.str i)) := de_glob (v := .str i) hg hm ⟨_, rfl⟩ (gv_str _) hdb
end
end DM
/-! DmR: zip, enumerate, tuple(..), list(..). -/
namespace DM
open PySem PySem.Spec PyProof.Rows L2
def pairD (p : D × D) : D := .tup [p.1, p.2]
def zipOf : List D → Option (List D)
  | [.tup xs, .tup ys] => some ((xs.zip ys).map pairD)
  | [.lst xs, .lst ys] => some ((xs.zip ys).map pairD)
  | _ => none
def iZip (m : Mi (List D)) : Mi (List D) := bnd m fun xs => lift (zipOf xs)
def enumFrom (i : Nat) : List D → List D
  | [] => []
  | d :: ds => .tup [.int (i : Int), d] :: enumFrom (i + 1) ds
def enumOf : List D → Option (List D)
  | [.lst xs] => some (enumFrom 0 xs)
  | _ => none
def iEnumM (m : Mi (List D)) : Mi (List D) := bnd m fun xs => lift (enumOf xs)
section
variable {X : Cx} {W : WX} {p p1 p2 : Bool} {G : List Sh} {e a b : Expr} {elts : List Expr} {kk : Nat} {pos q tpos : Pos} {F F1 : FS} {H H1 : Hp}
theorem zip_get {xs ys : List D} {i : Nat} {d : D} (h : ((xs.zip ys).map pairD)[i]? = some d) : ∃ x y, xs[i]? = some x ∧ ys[i]? = some y ∧ d = .tup [x, y] := by
  rw [List.getElem?_map] at h
  obtain ⟨⟨x, y⟩, h1, h2⟩ := Option.map_eq_some_iff.mp h
  obtain ⟨a, b⟩ := List.getElem?_zip_eq_some.mp h1
  exact ⟨x, y, a, b, h2.symm⟩
theorem pair_new {K : PySem.W.Frag} {T : Addr} {x y : V} {dx dy : D} (hT : H T = none) (rx : Rp K F H x dx) (ry : Rp K F H y dy) : ∃ F2, Pst F H F2 (upd H T (.tup [x, y])) ∧ Rp K F2 (upd H T (.tup [x, y])) (.ref T) (.tup [dx, dy]) :=
  ⟨_, Pst.lay hT, rp_new_tup hT (.cons rx (.cons ry .nil))⟩
theorem itd_zipT {K : PySem.W.Frag} {s t : Addr} {vs us : List V} {ds es : List D} (h1 : TupF K F H s vs) (r1 : Rps K F H vs ds) (h2 : TupF K F H t us) (r2 : Rps K F H us es) : ItD K F H (RZ.ItzT K s t) ((ds.zip es).map pairD) := by
  intro F1 H1 m nf i
  have q1 := (h1.mono m).sq
  have q2 := (h2.mono m).sq
  refine ⟨fun hi => ⟨vs, us, q1, q2, ?_⟩, fun d e => ?_⟩
  · simp at hi
    rw [r1.length, r2.length]; omega
  · obtain ⟨x, y, ex, ey, rfl⟩ := zip_get e
    obtain ⟨v, e1, g1⟩ := r1.get ex
    obtain ⟨u, e2, g2⟩ := r2.get ey
    refine ⟨⟨vs, us, v, u, q1, q2, e1, e2⟩, fun z H2 yl => ?_⟩
    obtain ⟨T, x', y', rfl, hT, rfl, k1, k2⟩ := yl
    have := k1 vs q1
    rw [e1] at this; cases this
    have := k2 us q2
    rw [e2] at this; cases this
    exact pair_new hT (g1.mono m) (g2.mono m)
theorem itd_zipL {K : PySem.W.Frag} {s t : Addr} {vs us : List V} {ds es : List D} (f1 : F s) (h1 : H s = some (.lst vs)) (r1 : Rps K F H vs ds) (f2 : F t) (h2 : H t = some (.lst us)) (r2 : Rps K F H us es) : ItD K F H (Itz K s t) ((ds.zip es).map pairD) := by
  intro F1 H1 m nf i
  have q1 : SqL K H1 s vs := SqL.of (m.l s vs f1 h1)
  have q2 : SqL K H1 t us := SqL.of (m.l t us f2 h2)
  refine ⟨fun hi => ⟨vs, us, q1, q2, ?_⟩, fun d e => ?_⟩
  · simp at hi
    rw [r1.length, r2.length]; omega
  · obtain ⟨x, y, ex, ey, rfl⟩ := zip_get e
    obtain ⟨v, e1, g1⟩ := r1.get ex
    obtain ⟨u, e2, g2⟩ := r2.get ey
    refine ⟨⟨vs, us, v, u, q1, q2, e1, e2⟩, fun z H2 yl => ?_⟩
    obtain ⟨T, x', y', rfl, hT, rfl, k1, k2⟩ := yl
    have := k1 vs q1
    rw [e1] at this; cases this
    have := k2 us q2
    rw [e2] at this; cases this
    exact pair_new hT (g1.mono m) (g2.mono m)
theorem di_zip {m : Mi (List D)} (hg : Gl X "zip") (hm : X.mg "zip" = none) (ha : DA X W p G [a, b] m) (hs : starEach [a, b] X.env = (false, eval a X.env) :: starEach [b] X.env := by rfl) (hpl : (backTo pos (starEach [b] X.env)).any (·.1) = false := by rfl) :
    DI X W (p && true) G (.Tuple elts kk tpos) (.Call (.Name "zip" q) [a, b] [] pos) (iZip m) := by
  obtain ⟨t, pe, l⟩ := ha
  refine ⟨_, RZ.pi_zipA hg hm pe hs hpl, fun F H A σ ρ R wf en hp => ?_⟩
  refine l.use wf en hp fun ds ρ1 xs H1 F1 A1 s1 wf1 en1 r1 _ hp => ?_
  obtain ⟨z, e, hp⟩ := hp.lift
  unfold zipOf at e
  split at e
  · cases e
    obtain ⟨u, w, rfl, t1, t2⟩ := rps2 r1.1
    cases t1 with
    | tup h1 g1 =>
      cases t2 with
      | tup h2 g2 => exact ⟨_, _, _, _, rfl, .inr ⟨h1.sq, h2.sq, hp.fin0 wf1 en1 (itd_zipT h1 g1 h2 g2)⟩⟩
  · cases e
    obtain ⟨u, w, rfl, t1, t2⟩ := rps2 r1.1
    cases t1 with
    | lst f1 h1 g1 =>
      cases t2 with
      | lst f2 h2 g2 => exact ⟨_, _, _, _, rfl, .inl ⟨SqL.of h1, SqL.of h2, hp.fin0 wf1 en1 (itd_zipL f1 h1 g1 f2 h2 g2)⟩⟩
  · cases e
theorem enum_len : ∀ (xs : List D) (i : Nat), (enumFrom i xs).length = xs.length
  | [], _ => rfl
  | _ :: xs, i => congrArg (· + 1) (enum_len xs (i + 1))
theorem enum_get : ∀ {xs : List D} {k i : Nat} {d : D}, (enumFrom k xs)[i]? = some d → ∃ x, xs[i]? = some x ∧ d = .tup [.int ((k + i : Nat) : Int), x]
  | [], _, _, _, h => by simp [enumFrom] at h
  | x :: xs, k, 0, d, h => by
    simp [enumFrom] at h
    exact ⟨x, rfl, h.symm⟩
  | x :: xs, k, i + 1, d, h => by
    obtain ⟨y, h1, h2⟩ := enum_get (xs := xs) (k := k + 1) (i := i) (by simpa [enumFrom] using h)
    exact ⟨y, by simpa using h1, by rw [h2, show k + 1 + i = k + (i + 1) by omega]⟩
theorem itd_enum {K : PySem.W.Frag} {s : Addr} {vs : List V} {ds : List D} (f1 : F s) (h1 : H s = some (.lst vs)) (r1 : Rps K F H vs ds) : ItD K F H (Ite K s) (enumFrom 0 ds) := by
  intro F1 H1 m nf i
  have q1 : SqL K H1 s vs := SqL.of (m.l s vs f1 h1)
  refine ⟨fun hi => ⟨vs, q1, by rw [enum_len] at hi; rw [r1.length]; exact hi⟩, fun d e => ?_⟩
  obtain ⟨x, ex, rfl⟩ := enum_get e
  obtain ⟨v, e1, g1⟩ := r1.get ex
  refine ⟨⟨vs, v, q1, e1⟩, fun z H2 yl => ?_⟩
  obtain ⟨T, x', rfl, hT, rfl, k1⟩ := yl
  have := k1 vs q1
  rw [e1] at this; cases this
  rw [Nat.zero_add]
  exact pair_new hT (.v _) (g1.mono m)
theorem di_enum {m : Mi (List D)} (hg : Gl X "enumerate") (hm : X.mg "enumerate" = none) (ha : DA X W p G [a] m) (hs : starEach [a] X.env = [(false, eval a X.env)] := by rfl) :
    DI X W (p && true) G (.Tuple elts kk tpos) (.Call (.Name "enumerate" q) [a] [] pos) (iEnumM m) := by
  obtain ⟨t, pe, l⟩ := ha
  refine ⟨_, pi_enum hg hm pe hs, fun F H A σ ρ R wf en hp => ?_⟩
  refine l.use wf en hp fun ds ρ1 xs H1 F1 A1 s1 wf1 en1 r1 _ hp => ?_
  obtain ⟨z, e, hp⟩ := hp.lift
  unfold enumOf at e
  split at e
  · cases e
    obtain ⟨u, rfl, t1⟩ := rps1 r1.1
    cases t1 with
    | lst f1 h1 g1 => exact ⟨_, _, rfl, SqL.of h1, hp.fin0 wf1 en1 (itd_enum f1 h1 g1)⟩
  · cases e
/-! ### tuple(..), list(..) -/
def tupD : D → Option D
  | .lst xs => some (.tup xs)
  | .tup xs => some (.tup xs)
  | .scr ns => some (.tup (ns.map D.int))
  | _ => none
def lstD : D → Option D
  | .lst xs => some (.lst xs)
  | .tup xs => some (.lst xs)
  | .scr ns => some (.lst (ns.map D.int))
  | _ => none
theorem de_tupc {m : Mi D} (hg : Gl X "tuple") (hm : X.mg "tuple" = none) (ha : DR X W p G a m) (hb : bootBuiltins "tuple" = some (.type "tuple")) (hs : starEach [a] X.env = (false, eval a X.env) :: starEach [] X.env := by rfl) (hpl : (backTo pos (starEach [] X.env)).any (·.1) = false := by rfl) :
    DE X W (p && true) G (.Call (.Name "tuple" q) [a] [] pos) (eUn tupD m) := by
  obtain ⟨t, pe, l⟩ := ha
  refine ⟨_, pe_callTy call_tuple_of hg hm hb (pa_cons pe pa_nil hs) (by decide) (by decide) hs hpl, fun F H A σ ρ Q wf en hp => ?_⟩
  refine l.use wf en hp fun d1 ρ1 x H1 F1 A1 s1 wf1 en1 r1 _ hp => ?_
  obtain ⟨d, e, hp⟩ := hp.lift
  unfold tupD at e
  split at e
  · cases e
    rcases r1 with h | ⟨q, vs, ds, rfl, e2, h, r⟩ | ⟨q, vs, ds, rfl, e2, h, r⟩ | ⟨q, vs, ds, rfl, e2, h, r⟩
    · cases h with
      | lst f h r => exact ⟨_, _, rfl, .inl ⟨SqL.of h, fun q hq => hp.fin wf1 en1 (Pst.lay hq) (rp_new_tup hq r)⟩⟩
    · cases e2
      exact ⟨_, _, rfl, .inl ⟨SqL.of h, fun q hq => hp.fin wf1 en1 (Pst.lay hq) (rp_new_tup hq r)⟩⟩
    · cases e2
    · cases e2
  · cases e
    rcases r1 with h | ⟨q, vs, ds, rfl, e2, h, r⟩ | ⟨q, vs, ds, rfl, e2, h, r⟩ | ⟨q, vs, ds, rfl, e2, h, r⟩
    · cases h with
      | tup h r => exact ⟨_, _, rfl, .inr ⟨h.sq, hp.fin0 wf1 en1 (.tup h r)⟩⟩
    all_goals cases e2
  · cases e
    rcases r1 with h | ⟨q, vs, ds, rfl, e2, h, r⟩ | ⟨q, vs, ds, rfl, e2, h, r⟩ | ⟨q, vs, ds, rfl, e2, h, r⟩
    · cases h with
      | scr h => exact ⟨_, _, rfl, .inl ⟨h.sq, fun q hq => hp.fin wf1 en1 (Pst.lay hq) (rp_new_tup hq (Rps.ints _))⟩⟩
    all_goals cases e2
  · cases e
theorem do_lstc {m : Mi D} (hg : Gl X "list") (hm : X.mg "list" = none) (ha : DR X W p G a m) (hb : bootBuiltins "list" = some (.type "list")) (hs : starEach [a] X.env = (false, eval a X.env) :: starEach [] X.env := by rfl) (hpl : (backTo pos (starEach [] X.env)).any (·.1) = false := by rfl) :
    DO X W (p && true) (.lst .fz) G (.Call (.Name "list" q) [a] [] pos) (eUn lstD m) := by
  obtain ⟨t, pe, l⟩ := ha
  refine ⟨_, pe_callTy call_list_of hg hm hb (pa_cons pe pa_nil hs) (by decide) (by decide) hs hpl, fun F H A σ ρ Q wf en hp => ?_⟩
  refine l.useO wf en hp fun d1 ρ1 x H1 F1 A1 s1 wf1 en1 r1 _ hp => ?_
  obtain ⟨d, e, hp⟩ := hp.lift
  unfold lstD at e
  split at e
  · cases e
    rcases r1 with h | ⟨q, vs, ds, rfl, e2, h, r⟩ | ⟨q, vs, ds, rfl, e2, h, r⟩ | ⟨q, vs, ds, rfl, e2, h, r⟩
    · cases h with
      | lst f h r => exact ⟨_, _, rfl, .inl (SqL.of h), fun q hq => hp.new wf1 en1 hq (ow_lst hq wf1.f r)⟩
    · cases e2
      exact ⟨_, _, rfl, .inl (SqL.of h), fun q hq => hp.new wf1 en1 hq (ow_lst hq wf1.f r)⟩
    · cases e2
    · cases e2
  · cases e
    rcases r1 with h | ⟨q, vs, ds, rfl, e2, h, r⟩ | ⟨q, vs, ds, rfl, e2, h, r⟩ | ⟨q, vs, ds, rfl, e2, h, r⟩
    · cases h with
      | tup h r => exact ⟨_, _, rfl, .inr h.sq, fun q hq => hp.new wf1 en1 hq (ow_lst hq wf1.f r)⟩
    all_goals cases e2
  · cases e
    rcases r1 with h | ⟨q, vs, ds, rfl, e2, h, r⟩ | ⟨q, vs, ds, rfl, e2, h, r⟩ | ⟨q, vs, ds, rfl, e2, h, r⟩
    · cases h with
      | scr h => exact ⟨_, _, rfl, .inl h.sq, fun q hq => hp.new wf1 en1 hq (ow_lst hq wf1.f (Rps.ints _))⟩
    all_goals cases e2
  · cases e
end
end DM
/-! written by gen.py: the mirrors of the defs, and that each def does what its mirror tells -/
namespace Gk19
open PySem PySem.Spec PyProof.Rows L2 DM

def top (i : Nat) : Stmt := PySem.Challenge.pw_leviesbook_k19_pools_year_by_year.main.body.getD i (.Pass ⟨0, 0, 0, 0⟩)
abbrev st_is_whole : Stmt := top 4
abbrev st_is_from_to : Stmt := top 5
abbrev st_is_tuple_of : Stmt := top 6
abbrev st_is_pool_part : Stmt := top 10
abbrev st_are_parts : Stmt := top 11
abbrev st_all_kept : Stmt := top 12
abbrev st_parts_alive : Stmt := top 13
abbrev st_parts_without : Stmt := top 14
abbrev st_used_of : Stmt := top 15
abbrev st_own_pool_year : Stmt := top 16
abbrev st_pool_year : Stmt := top 17
abbrev st__law_cell : Stmt := top 19
abbrev st__law_kept : Stmt := top 20
abbrev st__law_due : Stmt := top 21
abbrev st_law : Stmt := top 22
theorem sc_is_whole : FnScope ["thing"] ["thing"] (defScope st_is_whole) := ⟨rfl, rfl, rfl, by decide +kernel, rfl, by decide +kernel, by decide +kernel⟩
theorem sc_is_from_to : FnScope ["thing", "least", "most"] ["thing", "least", "most"] (defScope st_is_from_to) := ⟨rfl, rfl, rfl, by decide +kernel, rfl, by decide +kernel, by decide +kernel⟩
theorem sc_is_tuple_of : FnScope ["thing", "least", "most"] ["thing", "least", "most"] (defScope st_is_tuple_of) := ⟨rfl, rfl, rfl, by decide +kernel, rfl, by decide +kernel, by decide +kernel⟩
theorem sc_is_pool_part : FnScope ["thing"] ["thing"] (defScope st_is_pool_part) := ⟨rfl, rfl, rfl, by decide +kernel, rfl, by decide +kernel, by decide +kernel⟩
theorem sc_are_parts : FnScope ["thing", "one", "other"] ["thing"] (defScope st_are_parts) := ⟨rfl, rfl, rfl, by decide +kernel, rfl, by decide +kernel, by decide +kernel⟩
theorem sc_all_kept : FnScope ["parts", "year", "number"] ["parts"] (defScope st_all_kept) := ⟨rfl, rfl, rfl, by decide +kernel, rfl, by decide +kernel, by decide +kernel⟩
theorem sc_parts_alive : FnScope ["parts", "year", "life", "one"] ["parts", "year", "life"] (defScope st_parts_alive) := ⟨rfl, rfl, rfl, by decide +kernel, rfl, by decide +kernel, by decide +kernel⟩
theorem sc_parts_without : FnScope ["parts", "used", "found", "year", "number", "taken"] ["parts", "used"] (defScope st_parts_without) := ⟨rfl, rfl, rfl, by decide +kernel, rfl, by decide +kernel, by decide +kernel⟩
theorem sc_used_of : FnScope ["alive", "wanted"] ["alive", "wanted"] (defScope st_used_of) := ⟨rfl, rfl, rfl, by decide +kernel, rfl, by decide +kernel, by decide +kernel⟩
theorem sc_own_pool_year : FnScope ["parts", "year", "life", "wanted", "added", "alive", "used", "fresh", "left"] ["parts", "year", "life", "wanted", "added"] (defScope st_own_pool_year) := ⟨rfl, rfl, rfl, by decide +kernel, rfl, by decide +kernel, by decide +kernel⟩
theorem sc_pool_year : FnScope ["parts", "year", "life", "wanted", "added"] ["parts", "year", "life", "wanted", "added"] (defScope st_pool_year) := ⟨rfl, rfl, rfl, by decide +kernel, rfl, by decide +kernel, by decide +kernel⟩
theorem sc__law_cell : FnScope ["_law_cells", "_law_spot", "_law_k", "_law_start", "_law_own", "_law_turn"] ["_law_cells", "_law_spot"] (defScope st__law_cell) := ⟨rfl, rfl, rfl, by decide +kernel, rfl, by decide +kernel, by decide +kernel⟩
theorem sc__law_kept : FnScope ["_law_cells", "_law_spot", "_law_n", "_law_found", "_law_when", "_law_k", "_law_m"] ["_law_cells", "_law_spot"] (defScope st__law_kept) := ⟨rfl, rfl, rfl, by decide +kernel, rfl, by decide +kernel, by decide +kernel⟩
theorem sc__law_due : FnScope ["_law_kept_here", "_law_when", "_law_span", "_law_want", "_law_more", "_law_lost", "_law_alive", "_law_used", "_law_left", "_law_ahead", "_law_begin", "_law_number", "_law_gone", "_law_one"] ["_law_kept_here", "_law_when", "_law_span", "_law_want", "_law_more"] (defScope st__law_due) := ⟨rfl, rfl, rfl, by decide +kernel, rfl, by decide +kernel, by decide +kernel⟩
theorem sc_law : FnScope ["_law_script", "_law_spot", "_law_turn", "_law_kept_here", "_law_when", "_law_n", "_law_m", "_law_span", "_law_whole", "_law_some", "_law_want", "_law_more", "_law_again", "_law_due_here", "_law_shown", "_law_told", "_law_begin", "_law_number"] ["_law_script"] (defScope st_law) := ⟨rfl, rfl, rfl, by decide +kernel, rfl, by decide +kernel, by decide +kernel⟩
/-! ### mirrors -/
/- slots of is_whole: 0 thing -/
def b_is_whole : Ms := sRet (eAnd (eB bIsi (aCons (eVar 0) (aCons (eK (.v (.ty "int"))) (aNil)))) (eNot (eB bIsi (aCons (eVar 0) (aCons (eK (.v (.ty "bool"))) (aNil))))))
def mf_is_whole : Mf := mfOf 1 [.fz] (.fz) b_is_whole
/- slots of is_from_to: 0 thing, 1 least, 2 most -/
def b_is_from_to : Ms := sRet (eAnd (eCall mf_is_whole [0] (aCons (eVar 0) (aNil)) (aNil)) (eChain opLe opLe (eVar 1) (eVar 0) (eVar 2)))
def mf_is_from_to : Mf := mfOf 3 [.fz, .fz, .fz] (.fz) b_is_from_to
/- slots of is_tuple_of: 0 thing, 1 least, 2 most -/
def b_is_tuple_of : Ms := sRet (eAnd (eB bIsi (aCons (eVar 0) (aCons (eK (.v (.ty "tuple"))) (aNil)))) (eChain opLe opLe (eVar 1) (eB bLen (aCons (eVar 0) aNil)) (eVar 2)))
def mf_is_tuple_of : Mf := mfOf 3 [.fz, .fz, .fz] (.fz) b_is_tuple_of
/- slots of is_pool_part: 0 thing -/
def b_is_pool_part : Ms := sRet (eAnd (eCall mf_is_tuple_of [0, 1, 2] (aCons (eVar 0) (aCons (eK (.int 2)) (aCons (eK (.int 2)) (aNil)))) (aNil)) (eAnd (eCall mf_is_from_to [0, 1, 2] (aCons (eIx (eVar 0) (eK (.int 0))) (aCons (eK (.int 1)) (aCons (eK (.int 9999)) (aNil)))) (aNil)) (eAnd (eCall mf_is_whole [0] (aCons (eIx (eVar 0) (eK (.int 1))) (aNil)) (aNil)) (eCmp opGt (eIx (eVar 0) (eK (.int 1))) (eK (.int 0))))))
def mf_is_pool_part : Mf := mfOf 1 [.fz] (.fz) b_is_pool_part
/- slots of are_parts: 0 thing, 1 one, 2 other -/
def b_are_parts : Ms := sSeq (sIf (tOrM (tNotM (tVal (eB bIsi (aCons (eVar 0) (aCons (eK (.v (.ty "tuple"))) (aNil)))))) (tNotM (tVal (eB bAll (aCons (eLc [1] (iVal (eVar 0)) (gNm 1) (tYesM) (eCall mf_is_pool_part [0] (aCons (eVar 1) (aNil)) (aNil))) aNil))))) (sRet (eK (.bl false))) (sNil)) (sRet (eB bAll (aCons (eLc [1, 2] (iZip (aCons (eVar 0) (aCons (eSl slX (eVar 0) (oSome (eK (.int 1))) (oNone)) (aNil)))) (gTupM 2 (gsCons (gNm 1) (gsCons (gNm 2) (gsNil)))) (tYesM) (eCmp opLt (eIx (eVar 1) (eK (.int 0))) (eIx (eVar 2) (eK (.int 0))))) aNil)))
def mf_are_parts : Mf := mfOf 3 [.fz] (.fz) b_are_parts
/- slots of all_kept: 0 parts, 1 year, 2 number -/
def b_all_kept : Ms := sRet (eB bSum (aCons (eLc [1, 2] (iVal (eVar 0)) (gTupM 2 (gsCons (gNm 1) (gsCons (gNm 2) (gsNil)))) (tYesM) (eVar 2)) aNil))
def mf_all_kept : Mf := mfOf 3 [.fz] (.fz) b_all_kept
/- slots of parts_alive: 0 parts, 1 year, 2 life, 3 one -/
def b_parts_alive : Ms := sRet (eUn tupD (eLc [3] (iVal (eVar 0)) (gNm 3) (tCp opGe (eOp opAdd (eIx (eVar 3) (eK (.int 0))) (eVar 2)) (eVar 1)) (eVar 3)))
def mf_parts_alive : Mf := mfOf 4 [.fz, .fz, .fz] (.fz) b_parts_alive
/- slots of parts_without: 0 parts, 1 used, 2 found, 3 year, 4 number, 5 taken -/
def b_parts_without : Ms := sSeq (sSet 2 (eLst (aNil))) (sSeq (sFor (iVal (eVar 0)) (gTupM 2 (gsCons (gNm 3) (gsCons (gNm 4) (gsNil)))) (sSeq (sSet 5 (eB bMin (aCons (eVar 4) (aCons (eVar 1) (aNil))))) (sSeq (sAug 1 opSub (eVar 5)) (sSeq (sIf (tCp opGt (eVar 4) (eVar 5)) (sSeq (sExp (eMut 2 mAppend (aCons (eTup (aCons (eVar 3) (aCons (eOp opSub (eVar 4) (eVar 5)) (aNil)))) (aNil)))) (sNil)) (sNil)) (sNil))))) (sRet (eUn tupD (eVar 2))))
def mf_parts_without : Mf := mfOf 6 [.fz, .fz] (.fz) b_parts_without
/- slots of used_of: 0 alive, 1 wanted -/
def b_used_of : Ms := sRet (eB bMax (aCons (eK (.int 0)) (aCons (eB bMin (aCons (eVar 1) (aCons (eCall mf_all_kept [0] (aCons (eVar 0) (aNil)) (aNil)) (aNil)))) (aNil))))
def mf_used_of : Mf := mfOf 2 [.fz, .fz] (.fz) b_used_of
/- slots of own_pool_year: 0 parts, 1 year, 2 life, 3 wanted, 4 added, 5 alive, 6 used, 7 fresh, 8 left -/
def b_own_pool_year : Ms := sSeq (sSet 5 (eCall mf_parts_alive [0, 1, 2] (aCons (eVar 0) (aCons (eVar 1) (aCons (eVar 2) (aNil)))) (aNil))) (sSeq (sPar [6, 7] (aCons (eCall mf_used_of [0, 1] (aCons (eVar 5) (aCons (eVar 3) (aNil))) (aNil)) (aCons (eB bMax (aCons (eK (.int 0)) (aCons (eVar 4) (aNil)))) (aNil)))) (sSeq (sSet 8 (eCall mf_parts_without [0, 1] (aCons (eVar 5) (aCons (eVar 6) (aNil))) (aNil))) (sRet (eTup (aCons (eOp opSub (eCall mf_all_kept [0] (aCons (eVar 0) (aNil)) (aNil)) (eCall mf_all_kept [0] (aCons (eVar 5) (aNil)) (aNil))) (aCons (eVar 6) (aCons (eVar 7) (aCons (eIf (tCp opGt (eVar 7) (eK (.int 0))) (eOp opAdd (eVar 8) (eTup (aCons (eTup (aCons (eVar 1) (aCons (eVar 7) (aNil)))) (aNil)))) (eVar 8)) (aNil)))))))))
def mf_own_pool_year : Mf := mfOf 9 [.fz, .fz, .fz, .fz, .fz] (.fz) b_own_pool_year
/- slots of pool_year: 0 parts, 1 year, 2 life, 3 wanted, 4 added -/
def b_pool_year : Ms := sSeq (sIf (tOrM (tNotM (tVal (eCall mf_are_parts [0] (aCons (eVar 0) (aNil)) (aNil)))) (tOrM (tNotM (tVal (eCall mf_is_from_to [0, 1, 2] (aCons (eVar 1) (aCons (eK (.int 1)) (aCons (eK (.int 9999)) (aNil)))) (aNil)))) (tNotM (tVal (eCall mf_is_from_to [0, 1, 2] (aCons (eVar 2) (aCons (eK (.int 1)) (aCons (eK (.int 20)) (aNil)))) (aNil)))))) ((fun _ => .bad)) (sNil)) (sSeq (sIf (tAndM (tCp opNe (eVar 0) (eTup (aNil))) (tCp opGe (eIx (eIx (eVar 0) (eUn opNeg (eK (.int 1)))) (eK (.int 0))) (eVar 1))) ((fun _ => .bad)) (sNil)) (sSeq (sIf (tOrM (tNotM (tVal (eCall mf_is_whole [0] (aCons (eVar 3) (aNil)) (aNil)))) (tNotM (tVal (eCall mf_is_whole [0] (aCons (eVar 4) (aNil)) (aNil))))) ((fun _ => .bad)) (sNil)) (sRet (eCall mf_own_pool_year [0, 1, 2, 3, 4] (aCons (eVar 0) (aCons (eVar 1) (aCons (eVar 2) (aCons (eVar 3) (aCons (eVar 4) (aNil)))))) (aNil)))))
def mf_pool_year : Mf := mfOf 5 [.fz, .fz, .fz, .fz, .fz] (.fz) b_pool_year
/- slots of _law_cell: 0 _law_cells, 1 _law_spot, 2 _law_k, 3 _law_start, 4 _law_own, 5 _law_turn -/
def b__law_cell : Ms := sSeq (sAsg (eOp opAdd (eIx (eVar 1) (eK (.int 0))) (eK (.int 1))) (gSet 1 (eK (.int 0)))) (sSeq (sSet 2 (eIx (eVar 1) (eK (.int 0)))) (sSeq (sSet 3 (eOp opAdd (eOp opMul (eOp opMul (eK (.int 31)) (eVar 2)) (eVar 2)) (eOp opMul (eK (.int 7919)) (eVar 2)))) (sSeq (sIf (tAndM (tCp opGt (eB bLen (aCons (eVar 0) aNil)) (eK (.int 0))) (tAndM (tCp opGe (eIx (eVar 0) (eOp opMod (eVar 2) (eB bLen (aCons (eVar 0) aNil)))) (eOp opPow (eK (.int 10)) (eK (.int 18)))) (tCp opLt (eOp opFdiv (eVar 2) (eB bLen (aCons (eVar 0) aNil))) (eK (.int 60))))) (sSeq (sSet 4 (eIx (eVar 0) (eOp opMod (eVar 2) (eB bLen (aCons (eVar 0) aNil))))) (sSeq (sFor (iRng (aCons (eOp opFdiv (eVar 2) (eB bLen (aCons (eVar 0) aNil))) (aNil))) (gNm 5) (sSeq (sSet 4 (eOp opFdiv (eVar 4) (eK (.int 306783379)))) (sNil))) (sSeq (sIf (tCp opGt (eVar 4) (eK (.int 0))) (sRet (eOp opMod (eVar 4) (eK (.int 306783379)))) (sNil)) (sNil)))) (sNil)) (sSeq (sIf (tCp opGt (eB bLen (aCons (eVar 0) aNil)) (eK (.int 0))) (sSeq (sSet 3 (eOp opAdd (eVar 3) (eOp opMul (eOp opMod (eIx (eVar 0) (eOp opMod (eVar 2) (eB bLen (aCons (eVar 0) aNil)))) (eK (.int 2147483629))) (eOp opAdd (eK (.int 1)) (eOp opFdiv (eVar 2) (eB bLen (aCons (eVar 0) aNil))))))) (sNil)) (sNil)) (sRet (eOp opFdiv (eOp opMod (eOp opPow (eOp opMod (eVar 3) (eK (.int 2147483647))) (eK (.int 5))) (eK (.int 2147483647))) (eK (.int 7))))))))
def mf__law_cell : Mf := mfOf 6 [.fz, .lst .fz] (.fz) b__law_cell
/- slots of _law_kept: 0 _law_cells, 1 _law_spot, 2 _law_n, 3 _law_found, 4 _law_when, 5 _law_k, 6 _law_m -/
def b__law_kept : Ms := sSeq (sPar [2, 3, 4] (aCons (eCallG mf__law_cell (gVal (eVar 0) (gOwn 1 (gNil)))) (aCons (eLst (aNil)) (aCons (eOp opAdd (eK (.int 1)) (eOp opMod (eCallG mf__law_cell (gVal (eVar 0) (gOwn 1 (gNil)))) (eK (.int 9900)))) (aNil))))) (sSeq (sFor (iRng (aCons (eOp opMod (eVar 2) (eK (.int 7))) (aNil))) (gNm 5) (sSeq (sSet 6 (eCallG mf__law_cell (gVal (eVar 0) (gOwn 1 (gNil))))) (sSeq (sExp (eMut 3 mAppend (aCons (eTup (aCons (eVar 4) (aCons (eOp opAdd (eK (.int 1)) (eOp opMod (eOp opFdiv (eVar 6) (eK (.int 8))) (eIx (eLst (aCons (eK (.int 3)) (aCons (eK (.int 100)) (aCons (eOp opPow (eK (.int 10)) (eK (.int 6))) (aCons (eOp opPow (eK (.int 10)) (eK (.int 15))) (aNil)))))) (eOp opMod (eVar 6) (eK (.int 4)))))) (aNil)))) (aNil)))) (sSeq (sSet 4 (eOp opAdd (eVar 4) (eIx (eLst (aCons (eK (.int 1)) (aCons (eK (.int 1)) (aCons (eK (.int 2)) (aCons (eK (.int 5)) (aNil)))))) (eOp opMod (eOp opFdiv (eVar 6) (eK (.int 2))) (eK (.int 4)))))) (sNil))))) (sRet (eTup (aCons (eUn tupD (eVar 3)) (aCons (eVar 4) (aNil))))))
def mf__law_kept : Mf := mfOf 7 [.fz, .lst .fz] (.fz) b__law_kept
/- slots of _law_due: 0 _law_kept_here, 1 _law_when, 2 _law_span, 3 _law_want, 4 _law_more, 5 _law_lost, 6 _law_alive, 7 _law_used, 8 _law_left, 9 _law_ahead, 10 _law_begin, 11 _law_number, 12 _law_gone, 13 _law_one -/
def b__law_due : Ms := sSeq (sSet 5 (eB bSum (aCons (eLc [10, 11] (iVal (eVar 0)) (gTupM 2 (gsCons (gNm 10) (gsCons (gNm 11) (gsNil)))) (tCp opLt (eOp opAdd (eVar 10) (eVar 2)) (eVar 1)) (eVar 11)) aNil))) (sSeq (sSet 6 (eLc [10, 11] (iVal (eVar 0)) (gTupM 2 (gsCons (gNm 10) (gsCons (gNm 11) (gsNil)))) (tCp opGe (eOp opAdd (eVar 10) (eVar 2)) (eVar 1)) (eTup (aCons (eVar 10) (aCons (eVar 11) (aNil)))))) (sSeq (sSet 7 (eB bMax (aCons (eK (.int 0)) (aCons (eB bMin (aCons (eVar 3) (aCons (eB bSum (aCons (eLc [10, 11] (iVal (eVar 6)) (gTupM 2 (gsCons (gNm 10) (gsCons (gNm 11) (gsNil)))) (tYesM) (eVar 11)) aNil)) (aNil)))) (aNil))))) (sSeq (sPar [8, 9] (aCons (eLst (aNil)) (aCons (eK (.int 0)) (aNil)))) (sSeq (sFor (iVal (eVar 6)) (gTupM 2 (gsCons (gNm 10) (gsCons (gNm 11) (gsNil)))) (sSeq (sSet 12 (eB bMax (aCons (eK (.int 0)) (aCons (eB bMin (aCons (eVar 11) (aCons (eOp opSub (eVar 7) (eVar 9)) (aNil)))) (aNil))))) (sSeq (sExp (eMut 8 mAppend (aCons (eTup (aCons (eVar 10) (aCons (eOp opSub (eVar 11) (eVar 12)) (aNil)))) (aNil)))) (sSeq (sSet 9 (eOp opAdd (eVar 9) (eVar 11))) (sNil))))) (sSeq (sSet 8 (eLc [13] (iVal (eOp opAdd (eVar 8) (eLst (aCons (eTup (aCons (eVar 1) (aCons (eB bMax (aCons (eK (.int 0)) (aCons (eVar 4) (aNil)))) (aNil)))) (aNil))))) (gNm 13) (tCp opGt (eIx (eVar 13) (eK (.int 1))) (eK (.int 0))) (eVar 13))) (sRet (eTup (aCons (eVar 5) (aCons (eVar 7) (aCons (eB bMax (aCons (eK (.int 0)) (aCons (eVar 4) (aNil)))) (aCons (eUn tupD (eVar 8)) (aNil))))))))))))
def mf__law_due : Mf := mfOf 14 [.fz, .fz, .fz, .fz, .fz] (.fz) b__law_due
/- slots of law: 0 _law_script, 1 _law_spot, 2 _law_turn, 3 _law_kept_here, 4 _law_when, 5 _law_n, 6 _law_m, 7 _law_span, 8 _law_whole, 9 _law_some, 10 _law_want, 11 _law_more, 12 _law_again, 13 _law_due_here, 14 _law_shown, 15 _law_told, 16 _law_begin, 17 _law_number -/
def b_law : Ms := sSeq (sSet 1 (eLst (aCons (eK (.int 0)) (aNil)))) (sSeq (sFor (iRng (aCons (eOp opAdd (eK (.int 10)) (eB bMin (aCons (eK (.int 40)) (aCons (eOp opFdiv (eB bLen (aCons (eVar 0) aNil)) (eK (.int 2))) (aNil))))) (aNil))) (gNm 2) (sSeq (sAsg (eTup (aCons (eCallG mf__law_kept (gVal (eVar 0) (gOwn 1 (gNil)))) (aCons (eCallG mf__law_cell (gVal (eVar 0) (gOwn 1 (gNil)))) (aCons (eCallG mf__law_cell (gVal (eVar 0) (gOwn 1 (gNil)))) (aNil))))) (gTupM 3 (gsCons (gTupM 2 (gsCons (gNm 3) (gsCons (gNm 4) (gsNil)))) (gsCons (gNm 5) (gsCons (gNm 6) (gsNil)))))) (sSeq (sPar [4, 7] (aCons (eOp opAdd (eVar 4) (eIx (eLst (aCons (eK (.int 0)) (aCons (eK (.int 0)) (aCons (eK (.int 1)) (aCons (eK (.int 3)) (aCons (eK (.int 19)) (aCons (eK (.int 25)) (aNil)))))))) (eOp opMod (eVar 5) (eK (.int 6))))) (aCons (eOp opAdd (eK (.int 1)) (eOp opMod (eOp opFdiv (eVar 5) (eK (.int 6))) (eK (.int 20)))) (aNil)))) (sSeq (sSet 8 (eB bSum (aCons (eLc [16, 17] (iVal (eVar 3)) (gTupM 2 (gsCons (gNm 16) (gsCons (gNm 17) (gsNil)))) (tYesM) (eVar 17)) aNil))) (sSeq (sSet 9 (eLst (aCons (eK (.int 0)) (aCons (eUn opNeg (eK (.int 5))) (aCons (eVar 8) (aCons (eOp opAdd (eVar 8) (eK (.int 1))) (aCons (eOp opSub (eVar 8) (eK (.int 1))) (aCons (eOp opFdiv (eVar 8) (eK (.int 2))) (aCons (eIf (tCp opNe (eVar 3) (eTup (aNil))) (eIx (eIx (eVar 3) (eK (.int 0))) (eK (.int 1))) (eK (.int 3))) (aCons (eOp opPow (eK (.int 10)) (eK (.int 18))) (aNil))))))))))) (sSeq (sPar [10, 11] (aCons (eIx (eVar 9) (eOp opMod (eVar 6) (eK (.int 8)))) (aCons (eIx (eLst (aCons (eK (.int 0)) (aCons (eUn opNeg (eK (.int 7))) (aCons (eK (.int 1)) (aCons (eOp opMod (eOp opFdiv (eVar 6) (eK (.int 64))) (eK (.int 1000))) (aCons (eOp opPow (eK (.int 10)) (eK (.int 20))) (aNil))))))) (eOp opMod (eOp opFdiv (eVar 6) (eK (.int 8))) (eK (.int 5)))) (aNil)))) (sSeq (sFor (iRng (aCons (eK (.int 3)) (aNil))) (gNm 12) (sSeq (sPar [13, 14] (aCons (eCall mf__law_due [0, 1, 2, 3, 4] (aCons (eVar 3) (aCons (eVar 4) (aCons (eVar 7) (aCons (eVar 10) (aCons (eVar 11) (aNil)))))) (aNil)) (aCons (eB bRepr (aCons (eVar 3) aNil)) (aNil)))) (sSeq (sSet 15 (eLst (aCons (eCall mf_pool_year [0, 1, 2, 3, 4] (aCons (eVar 3) (aCons (eVar 4) (aCons (eVar 7) (aCons (eVar 10) (aCons (eVar 11) (aNil)))))) (aNil)) (aNil)))) (sSeq (sExp (eMut 15 mAppend (aCons (eCall mf_pool_year [4, 3, 2, 1, 0] aNil (aCons (eVar 11) (aCons (eVar 10) (aCons (eVar 7) (aCons (eVar 4) (aCons (eVar 3) (aNil))))))) (aNil)))) (sSeq (sIf (tOrM (tCp opNe (eB bRepr (aCons (eVar 15) aNil)) (eB bRepr (aCons (eLst (aCons (eVar 13) (aCons (eVar 13) (aNil)))) aNil))) (tCp opNe (eB bRepr (aCons (eVar 3) aNil)) (eVar 14))) (sRet (eK (.bl false))) (sNil)) (sSeq (sPar [3, 4] (aCons (eIx (eIx (eVar 15) (eK (.int 0))) (eK (.int 3))) (aCons (eOp opAdd (eOp opAdd (eVar 4) (eK (.int 1))) (eOp opMod (eOp opFdiv (eVar 6) (eK (.int 9))) (eK (.int 3)))) (aNil)))) (sSeq (sIf (tCp opIsNot (eCall mf_are_parts [0] (aCons (eVar 3) (aNil)) (aNil)) (eK (.bl true))) (sRet (eK (.bl false))) (sNil)) (sNil)))))))) (sNil)))))))) (sRet (eK (.bl true))))
def mf_law : Mf := mfOf 18 [.fz] (.fz) b_law
/-! ### what the top tells -/
abbrev Fd (K : PySem.W.Frag) (x : Str) (st : Stmt) (fd : FuncData) : Prop := FunD K x x (defArgs st) (defBody st) (defScope st) [] [] (He.ga K x) fd
structure Gd (K : PySem.W.Frag) (mg : Str → Option Value) : Prop where
  b_all : mg "all" = none
  b_bool : mg "bool" = none
  b_int : mg "int" = none
  b_isinstance : mg "isinstance" = none
  b_len : mg "len" = none
  b_max : mg "max" = none
  b_min : mg "min" = none
  b_range : mg "range" = none
  b_repr : mg "repr" = none
  b_sum : mg "sum" = none
  b_tuple : mg "tuple" = none
  b_zip : mg "zip" = none
  c_MOST_LIFE : ∃ t, mg "MOST_LIFE" = some (.int 20 t)
  c_MOST_YEAR : ∃ t, mg "MOST_YEAR" = some (.int 9999 t)
  f_is_whole : mg "is_whole" = some (.ref (He.ga K "is_whole"))
  d_is_whole : ∃ fd, Fd K "is_whole" st_is_whole fd
  f_is_from_to : mg "is_from_to" = some (.ref (He.ga K "is_from_to"))
  d_is_from_to : ∃ fd, Fd K "is_from_to" st_is_from_to fd
  f_is_tuple_of : mg "is_tuple_of" = some (.ref (He.ga K "is_tuple_of"))
  d_is_tuple_of : ∃ fd, Fd K "is_tuple_of" st_is_tuple_of fd
  f_is_pool_part : mg "is_pool_part" = some (.ref (He.ga K "is_pool_part"))
  d_is_pool_part : ∃ fd, Fd K "is_pool_part" st_is_pool_part fd
  f_are_parts : mg "are_parts" = some (.ref (He.ga K "are_parts"))
  d_are_parts : ∃ fd, Fd K "are_parts" st_are_parts fd
  f_all_kept : mg "all_kept" = some (.ref (He.ga K "all_kept"))
  d_all_kept : ∃ fd, Fd K "all_kept" st_all_kept fd
  f_parts_alive : mg "parts_alive" = some (.ref (He.ga K "parts_alive"))
  d_parts_alive : ∃ fd, Fd K "parts_alive" st_parts_alive fd
  f_parts_without : mg "parts_without" = some (.ref (He.ga K "parts_without"))
  d_parts_without : ∃ fd, Fd K "parts_without" st_parts_without fd
  f_used_of : mg "used_of" = some (.ref (He.ga K "used_of"))
  d_used_of : ∃ fd, Fd K "used_of" st_used_of fd
  f_own_pool_year : mg "own_pool_year" = some (.ref (He.ga K "own_pool_year"))
  d_own_pool_year : ∃ fd, Fd K "own_pool_year" st_own_pool_year fd
  f_pool_year : mg "pool_year" = some (.ref (He.ga K "pool_year"))
  d_pool_year : ∃ fd, Fd K "pool_year" st_pool_year fd
  f__law_cell : mg "_law_cell" = some (.ref (He.ga K "_law_cell"))
  d__law_cell : ∃ fd, Fd K "_law_cell" st__law_cell fd
  f__law_kept : mg "_law_kept" = some (.ref (He.ga K "_law_kept"))
  d__law_kept : ∃ fd, Fd K "_law_kept" st__law_kept fd
  f__law_due : mg "_law_due" = some (.ref (He.ga K "_law_due"))
  d__law_due : ∃ fd, Fd K "_law_due" st__law_due fd
  f_law : mg "law" = some (.ref (He.ga K "law"))
  d_law : ∃ fd, Fd K "law" st_law fd
/-! ### the defs -/
section
variable {P : Program} {w : World} {K : PySem.W.Frag} {mg : Str → Option Value} {base : Heap}
set_option maxHeartbeats 4000000 in
theorem ok_is_whole (gd : Gd K mg) (hsys : SysOk base) {fd : FuncData} (F : Fd K "is_whole" st_is_whole fd) : KBn K fd ["thing"] 1 [] (fun us ws => us) (fun vs zs => vs) ∧ FnG P w K mg base 1 (He.ga K "is_whole") fd ["thing"] (spD K mg [.fz] (.fz) mf_is_whole) := by
  refine ⟨kpos_ofD F (fun _ _ _ _ _ _ us h => match us, h with | [_], _ => rfl), fn_d F sc_is_whole rfl rfl fun cdv A outer s H vs E hr hgd hv => ?_⟩
  match vs, hv with
  | [v0], _ =>
    exact (dss_one (ds_ret (de_and (de_b call_isD vb_isi rfl gd.b_isinstance boot_isinstance (dac_of (da_cons (de_var 0 rfl rfl (.inl rfl)) (da_cons (de_bty rfl gd.b_int boot_int) da_nil)))) (de_one (de_not (de_b call_isD vb_isi rfl gd.b_isinstance boot_isinstance (dac_of (da_cons (de_var 0 rfl rfl (.inl rfl)) (da_cons (de_bty rfl gd.b_bool boot_bool) da_nil))))))) rfl (.a .nil) (.a .nil)))
set_option maxHeartbeats 4000000 in
theorem ok_is_from_to (gd : Gd K mg) (hsys : SysOk base) {fd : FuncData} (F : Fd K "is_from_to" st_is_from_to fd) : KBn K fd ["thing", "least", "most"] 3 [] (fun us ws => us) (fun vs zs => vs) ∧ FnG P w K mg base 2 (He.ga K "is_from_to") fd ["thing", "least", "most"] (spD K mg [.fz, .fz, .fz] (.fz) mf_is_from_to) := by
  obtain ⟨fd_is_whole, F_is_whole⟩ := gd.d_is_whole
  obtain ⟨K_is_whole, G_is_whole⟩ := ok_is_whole (P := P) (w := w) gd hsys F_is_whole
  refine ⟨kpos_ofD F (fun _ _ _ _ _ _ us h => match us, h with | [_, _, _], _ => rfl), fn_d F sc_is_from_to rfl rfl fun cdv A outer s H vs E hr hgd hv => ?_⟩
  match vs, hv with
  | [v0, v1, v2], _ =>
    exact (dss_one (ds_ret (de_and (de_call (FnG.mono G_is_whole (by decide)) hr hgd (takes_of rfl rfl rfl rfl) (kbn_ofD F_is_whole 1 [] [0] fun _ _ _ _ _ _ us ws h1 h2 => match us, ws, h1, h2 with | [_], [], _, _ => rfl) rfl gd.f_is_whole F_is_whole.kp rfl (da_cons (de_var 0 rfl rfl (.inl rfl)) da_nil) dk_nil rfl rfl) (de_one (de_chain op_le op_le vc_i2 vc_i2 (de_var 1 rfl rfl (.inl rfl)) (de_var 0 rfl rfl (.inl rfl)) (de_var 2 rfl rfl (.inl rfl))))) rfl (.a (.a (.a .nil))) (.a (.a (.a .nil)))))
set_option maxHeartbeats 4000000 in
theorem ok_is_tuple_of (gd : Gd K mg) (hsys : SysOk base) {fd : FuncData} (F : Fd K "is_tuple_of" st_is_tuple_of fd) : KBn K fd ["thing", "least", "most"] 3 [] (fun us ws => us) (fun vs zs => vs) ∧ FnG P w K mg base 1 (He.ga K "is_tuple_of") fd ["thing", "least", "most"] (spD K mg [.fz, .fz, .fz] (.fz) mf_is_tuple_of) := by
  refine ⟨kpos_ofD F (fun _ _ _ _ _ _ us h => match us, h with | [_, _, _], _ => rfl), fn_d F sc_is_tuple_of rfl rfl fun cdv A outer s H vs E hr hgd hv => ?_⟩
  match vs, hv with
  | [v0, v1, v2], _ =>
    exact (dss_one (ds_ret (de_and (de_b call_isD vb_isi rfl gd.b_isinstance boot_isinstance (dac_of (da_cons (de_var 0 rfl rfl (.inl rfl)) (da_cons (de_bty rfl gd.b_tuple boot_tuple) da_nil)))) (de_one (de_chain op_le op_le vc_i2 vc_i2 (de_var 1 rfl rfl (.inl rfl)) (de_b call_len vb_len rfl gd.b_len boot_len (dac_one (DR.dc (DE.dr (de_var 0 rfl rfl (.inl rfl)))))) (de_var 2 rfl rfl (.inl rfl))))) rfl (.a (.a (.a .nil))) (.a (.a (.a .nil)))))
set_option maxHeartbeats 4000000 in
theorem ok_is_pool_part (gd : Gd K mg) (hsys : SysOk base) {fd : FuncData} (F : Fd K "is_pool_part" st_is_pool_part fd) : KBn K fd ["thing"] 1 [] (fun us ws => us) (fun vs zs => vs) ∧ FnG P w K mg base 3 (He.ga K "is_pool_part") fd ["thing"] (spD K mg [.fz] (.fz) mf_is_pool_part) := by
  obtain ⟨fd_is_whole, F_is_whole⟩ := gd.d_is_whole
  obtain ⟨K_is_whole, G_is_whole⟩ := ok_is_whole (P := P) (w := w) gd hsys F_is_whole
  obtain ⟨fd_is_from_to, F_is_from_to⟩ := gd.d_is_from_to
  obtain ⟨K_is_from_to, G_is_from_to⟩ := ok_is_from_to (P := P) (w := w) gd hsys F_is_from_to
  obtain ⟨fd_is_tuple_of, F_is_tuple_of⟩ := gd.d_is_tuple_of
  obtain ⟨K_is_tuple_of, G_is_tuple_of⟩ := ok_is_tuple_of (P := P) (w := w) gd hsys F_is_tuple_of
  obtain ⟨t_MOST_YEAR, c_MOST_YEAR⟩ := gd.c_MOST_YEAR
  refine ⟨kpos_ofD F (fun _ _ _ _ _ _ us h => match us, h with | [_], _ => rfl), fn_d F sc_is_pool_part rfl rfl fun cdv A outer s H vs E hr hgd hv => ?_⟩
  match vs, hv with
  | [v0], _ =>
    exact (dss_one (ds_ret (de_and (de_call (FnG.mono G_is_tuple_of (by decide)) hr hgd (takes_of rfl rfl rfl rfl) (kbn_ofD F_is_tuple_of 3 [] [0, 1, 2] fun _ _ _ _ _ _ us ws h1 h2 => match us, ws, h1, h2 with | [_, _, _], [], _, _ => rfl) rfl gd.f_is_tuple_of F_is_tuple_of.kp rfl (da_cons (de_var 0 rfl rfl (.inl rfl)) (da_cons de_int (da_cons de_int da_nil))) dk_nil rfl rfl) (de_and (de_call (FnG.mono G_is_from_to (by decide)) hr hgd (takes_of rfl rfl rfl rfl) (kbn_ofD F_is_from_to 3 [] [0, 1, 2] fun _ _ _ _ _ _ us ws h1 h2 => match us, ws, h1, h2 with | [_, _, _], [], _, _ => rfl) rfl gd.f_is_from_to F_is_from_to.kp rfl (da_cons (de_ix (de_var 0 rfl rfl (.inl rfl)) de_int) (da_cons de_int (da_cons (de_globI rfl c_MOST_YEAR) da_nil))) dk_nil rfl rfl) (de_and (de_call (FnG.mono G_is_whole (by decide)) hr hgd (takes_of rfl rfl rfl rfl) (kbn_ofD F_is_whole 1 [] [0] fun _ _ _ _ _ _ us ws h1 h2 => match us, ws, h1, h2 with | [_], [], _, _ => rfl) rfl gd.f_is_whole F_is_whole.kp rfl (da_cons (de_ix (de_var 0 rfl rfl (.inl rfl)) de_int) da_nil) dk_nil rfl rfl) (de_one (de_cmp op_gt vc_i2 (de_ix (de_var 0 rfl rfl (.inl rfl)) de_int) (DR.dc (DE.dr de_int)) rfl))))) rfl (.a .nil) (.a .nil)))
set_option maxHeartbeats 4000000 in
theorem ok_are_parts (gd : Gd K mg) (hsys : SysOk base) {fd : FuncData} (F : Fd K "are_parts" st_are_parts fd) : KBn K fd ["thing"] 1 [] (fun us ws => us) (fun vs zs => vs) ∧ FnG P w K mg base 4 (He.ga K "are_parts") fd ["thing"] (spD K mg [.fz] (.fz) mf_are_parts) := by
  obtain ⟨fd_is_pool_part, F_is_pool_part⟩ := gd.d_is_pool_part
  obtain ⟨K_is_pool_part, G_is_pool_part⟩ := ok_is_pool_part (P := P) (w := w) gd hsys F_is_pool_part
  refine ⟨kpos_ofD F (fun _ _ _ _ _ _ us h => match us, h with | [_], _ => rfl), fn_d F sc_are_parts rfl rfl fun cdv A outer s H vs E hr hgd hv => ?_⟩
  match vs, hv with
  | [v0], _ =>
    exact (dss_cons (ds_if (G' := [.fz, .any, .any]) (DW.dt (dw_or (dt_not (dt_val (de_b call_isD vb_isi rfl gd.b_isinstance boot_isinstance (dac_of (da_cons (de_var 0 rfl rfl (.inl rfl)) (da_cons (de_bty rfl gd.b_tuple boot_tuple) da_nil)))))) (dw_or1 (dt_not (dt_val (de_b (cr_all rfl) vb_all rfl gd.b_all boot_all (dac_one (DR.dc (DE.dr (DO.de (do_lc (own := [(("one" : Str), 1)]) rfl sc_are_parts.nd (blkOk_by (by rfl)) (di_val (de_var 0 rfl rfl (.inl rfl))) (fun _ _ _ _ _ => (dt_name 1 sc_are_parts.nd rfl (.inl rfl))) (fun _ _ _ _ _ => dtb_nil) (fun _ _ _ _ _ => (de_call (FnG.mono G_is_pool_part (by decide)) hr hgd takes_no (kbn_ofD F_is_pool_part 1 [] [0] fun _ _ _ _ _ _ us ws h1 h2 => match us, ws, h1, h2 with | [_], [], _, _ => rfl) rfl gd.f_is_pool_part F_is_pool_part.kp rfl (da_cons (de_var 1 rfl rfl (.inl rfl)) da_nil) dk_nil rfl rfl)) (by decide) rfl (by decide) (fa_cons (.inr rfl) fa_nil)) rfl)))))))))) (dss_one (ds_ret de_bl rfl (.a (.s (.s .nil))) (.a (.s (.s .nil))))) dss_nil (.a (.s (.s .nil)))) (dss_one (ds_ret (de_b (cr_all rfl) vb_all rfl gd.b_all boot_all (dac_one (DR.dc (DE.dr (DO.de (do_lc (own := [(("one" : Str), 1), (("other" : Str), 2)]) rfl sc_are_parts.nd (blkOk_by (by rfl)) (di_zip rfl gd.b_zip (da_cons (de_var 0 rfl rfl (.inl rfl)) (da_cons (de_slX (DE.dr (de_var 0 rfl rfl (.inl rfl))) (dp_some de_int) dp_none) da_nil))) (fun _ _ _ _ _ => (dt_tup rfl (dts_cons (dt_name 1 sc_are_parts.nd rfl (.inl rfl)) (dts_cons (dt_name 2 sc_are_parts.nd rfl (.inl rfl)) dts_nil)))) (fun _ _ _ _ _ => dtb_nil) (fun _ _ _ _ _ => (de_cmp op_lt vc_i2 (de_ix (de_var 1 rfl rfl (.inl rfl)) de_int) (DR.dc (DE.dr (de_ix (de_var 2 rfl rfl (.inl rfl)) de_int))) rfl)) (by decide) rfl (by decide) (fa_cons (.inr rfl) (fa_cons (.inr rfl) fa_nil))) rfl))))) rfl (.a (.s (.s .nil))) (.a (.s (.s .nil))))))
set_option maxHeartbeats 4000000 in
theorem ok_all_kept (gd : Gd K mg) (hsys : SysOk base) {fd : FuncData} (F : Fd K "all_kept" st_all_kept fd) : KBn K fd ["parts"] 1 [] (fun us ws => us) (fun vs zs => vs) ∧ FnG P w K mg base 1 (He.ga K "all_kept") fd ["parts"] (spD K mg [.fz] (.fz) mf_all_kept) := by
  refine ⟨kpos_ofD F (fun _ _ _ _ _ _ us h => match us, h with | [_], _ => rfl), fn_d F sc_all_kept rfl rfl fun cdv A outer s H vs E hr hgd hv => ?_⟩
  match vs, hv with
  | [v0], _ =>
    exact (dss_one (ds_ret (de_b (cr_sum rfl) vb_sum rfl gd.b_sum boot_sum (dac_one (DR.dc (DE.dr (DO.de (do_lc (own := [(("year" : Str), 1), (("number" : Str), 2)]) rfl sc_all_kept.nd (blkOk_by (by rfl)) (di_val (de_var 0 rfl rfl (.inl rfl))) (fun _ _ _ _ _ => (dt_tup rfl (dts_cons (dt_name 1 sc_all_kept.nd rfl (.inl rfl)) (dts_cons (dt_name 2 sc_all_kept.nd rfl (.inl rfl)) dts_nil)))) (fun _ _ _ _ _ => dtb_nil) (fun _ _ _ _ _ => (de_var 2 rfl rfl (.inl rfl))) (by decide) rfl (by decide) (fa_cons (.inr rfl) (fa_cons (.inr rfl) fa_nil))) rfl))))) rfl (.a (.s (.s .nil))) (.a (.s (.s .nil)))))
set_option maxHeartbeats 4000000 in
theorem ok_parts_alive (gd : Gd K mg) (hsys : SysOk base) {fd : FuncData} (F : Fd K "parts_alive" st_parts_alive fd) : KBn K fd ["parts", "year", "life"] 3 [] (fun us ws => us) (fun vs zs => vs) ∧ FnG P w K mg base 1 (He.ga K "parts_alive") fd ["parts", "year", "life"] (spD K mg [.fz, .fz, .fz] (.fz) mf_parts_alive) := by
  refine ⟨kpos_ofD F (fun _ _ _ _ _ _ us h => match us, h with | [_, _, _], _ => rfl), fn_d F sc_parts_alive rfl rfl fun cdv A outer s H vs E hr hgd hv => ?_⟩
  match vs, hv with
  | [v0, v1, v2], _ =>
    exact (dss_one (ds_ret (de_tupc rfl gd.b_tuple (DE.dr (DO.de (do_lc (own := [(("one" : Str), 3)]) rfl sc_parts_alive.nd (blkOk_by (by rfl)) (di_val (de_var 0 rfl rfl (.inl rfl))) (fun _ _ _ _ _ => (dt_name 3 sc_parts_alive.nd rfl (.inl rfl))) (fun _ _ _ _ _ => (dtb_one (dt_cmp op_ge vc_i2 (de_op op_addX vop_add (de_ix (de_var 3 rfl rfl (.inl rfl)) de_int) (de_var 2 rfl rfl (.inr (.inl rfl)))) (DR.dc (DE.dr (de_var 1 rfl rfl (.inr (.inl rfl))))) rfl))) (fun _ _ _ _ _ => (de_var 3 rfl rfl (.inl rfl))) (by decide) rfl (by decide) (fa_cons (.inr rfl) fa_nil)) rfl)) boot_tuple) rfl (.a (.a (.a (.s .nil)))) (.a (.a (.a (.s .nil))))))
set_option maxHeartbeats 4000000 in
theorem ok_parts_without (gd : Gd K mg) (hsys : SysOk base) {fd : FuncData} (F : Fd K "parts_without" st_parts_without fd) : KBn K fd ["parts", "used"] 2 [] (fun us ws => us) (fun vs zs => vs) ∧ FnG P w K mg base 1 (He.ga K "parts_without") fd ["parts", "used"] (spD K mg [.fz, .fz] (.fz) mf_parts_without) := by
  refine ⟨kpos_ofD F (fun _ _ _ _ _ _ us h => match us, h with | [_, _], _ => rfl), fn_d F sc_parts_without rfl rfl fun cdv A outer s H vs E hr hgd hv => ?_⟩
  match vs, hv with
  | [v0, v1], _ =>
    exact (dss_cons (ds_setO (i := 2) sc_parts_without.nd rfl (.inl rfl) (do_lst da_nil) (.a (.a (.s (.s (.s (.s .nil))))))) (dss_cons (ds_for (Gh := [.fz, .fz, .lst .fz, .any, .any, .any]) (passes_of rfl) rfl (di_val (de_var 0 rfl rfl (.inl rfl))) (dt_tup rfl (dts_cons (dt_name 3 sc_parts_without.nd rfl (.inl rfl)) (dts_cons (dt_name 4 sc_parts_without.nd rfl (.inl rfl)) dts_nil))) (dss_cons (ds_set (i := 5) sc_parts_without.nd rfl (.inl rfl) (de_b (call_min2 rfl) vb_min rfl gd.b_min boot_min (dac_of (da_cons (de_var 4 rfl rfl (.inl rfl)) (da_cons (de_var 1 rfl rfl (.inl rfl)) da_nil)))) (.a (.a (.a (.a (.a (.s .nil))))))) (dss_cons (ds_aug (i := 1) sc_parts_without.nd rfl (.inl rfl) rfl iop_sub vop_sub (de_var 5 rfl rfl (.inl rfl)) (.a (.a (.a (.a (.a (.a .nil))))))) (dss_cons (ds_if (G' := [.fz, .fz, .lst .fz, .fz, .fz, .fz]) (dt_cmp op_gt vc_i2 (de_var 4 rfl rfl (.inl rfl)) (DR.dc (DE.dr (de_var 5 rfl rfl (.inl rfl)))) rfl) (dss_cons (ds_exp (de_mut 2 PySem.F.slot_list_append PySem.F.type_list_append mt_append vm_append rfl .lst rfl (.inl rfl) (da_cons (de_tup (da_cons (de_var 3 rfl rfl (.inl rfl)) (da_cons (de_op op_sub vop_sub (de_var 4 rfl rfl (.inl rfl)) (de_var 5 rfl rfl (.inl rfl))) da_nil))) da_nil)) (.a (.a (.a (.a (.a (.a .nil))))))) dss_nil) dss_nil (.a (.a (.a (.a (.a (.a .nil))))))) (DSs.wk dss_nil (.s (.s (.s (.a (.a (.a .nil)))))))))) (.s (.s (.s (.s (.s (.s .nil)))))) (.a (.a (.a (.s (.s (.s .nil))))))) (dss_one (ds_ret (de_tupc rfl gd.b_tuple (dr_var 2 rfl .lst rfl (.inl rfl)) boot_tuple) rfl (.a (.a (.a (.s (.s (.s .nil)))))) (.a (.a (.a (.s (.s (.s .nil))))))))))
set_option maxHeartbeats 4000000 in
theorem ok_used_of (gd : Gd K mg) (hsys : SysOk base) {fd : FuncData} (F : Fd K "used_of" st_used_of fd) : KBn K fd ["alive", "wanted"] 2 [] (fun us ws => us) (fun vs zs => vs) ∧ FnG P w K mg base 2 (He.ga K "used_of") fd ["alive", "wanted"] (spD K mg [.fz, .fz] (.fz) mf_used_of) := by
  obtain ⟨fd_all_kept, F_all_kept⟩ := gd.d_all_kept
  obtain ⟨K_all_kept, G_all_kept⟩ := ok_all_kept (P := P) (w := w) gd hsys F_all_kept
  refine ⟨kpos_ofD F (fun _ _ _ _ _ _ us h => match us, h with | [_, _], _ => rfl), fn_d F sc_used_of rfl rfl fun cdv A outer s H vs E hr hgd hv => ?_⟩
  match vs, hv with
  | [v0, v1], _ =>
    exact (dss_one (ds_ret (de_b (call_max2 rfl) vb_max rfl gd.b_max boot_max (dac_of (da_cons de_int (da_cons (de_b (call_min2 rfl) vb_min rfl gd.b_min boot_min (dac_of (da_cons (de_var 1 rfl rfl (.inl rfl)) (da_cons (de_call (FnG.mono G_all_kept (by decide)) hr hgd (takes_of rfl rfl rfl rfl) (kbn_ofD F_all_kept 1 [] [0] fun _ _ _ _ _ _ us ws h1 h2 => match us, ws, h1, h2 with | [_], [], _, _ => rfl) rfl gd.f_all_kept F_all_kept.kp rfl (da_cons (de_var 0 rfl rfl (.inl rfl)) da_nil) dk_nil rfl rfl) da_nil)))) da_nil)))) rfl (.a (.a .nil)) (.a (.a .nil))))
set_option maxHeartbeats 4000000 in
theorem ok_own_pool_year (gd : Gd K mg) (hsys : SysOk base) {fd : FuncData} (F : Fd K "own_pool_year" st_own_pool_year fd) : KBn K fd ["parts", "year", "life", "wanted", "added"] 5 [] (fun us ws => us) (fun vs zs => vs) ∧ FnG P w K mg base 3 (He.ga K "own_pool_year") fd ["parts", "year", "life", "wanted", "added"] (spD K mg [.fz, .fz, .fz, .fz, .fz] (.fz) mf_own_pool_year) := by
  obtain ⟨fd_all_kept, F_all_kept⟩ := gd.d_all_kept
  obtain ⟨K_all_kept, G_all_kept⟩ := ok_all_kept (P := P) (w := w) gd hsys F_all_kept
  obtain ⟨fd_parts_alive, F_parts_alive⟩ := gd.d_parts_alive
  obtain ⟨K_parts_alive, G_parts_alive⟩ := ok_parts_alive (P := P) (w := w) gd hsys F_parts_alive
  obtain ⟨fd_parts_without, F_parts_without⟩ := gd.d_parts_without
  obtain ⟨K_parts_without, G_parts_without⟩ := ok_parts_without (P := P) (w := w) gd hsys F_parts_without
  obtain ⟨fd_used_of, F_used_of⟩ := gd.d_used_of
  obtain ⟨K_used_of, G_used_of⟩ := ok_used_of (P := P) (w := w) gd hsys F_used_of
  refine ⟨kpos_ofD F (fun _ _ _ _ _ _ us h => match us, h with | [_, _, _, _, _], _ => rfl), fn_d F sc_own_pool_year rfl rfl fun cdv A outer s H vs E hr hgd hv => ?_⟩
  match vs, hv with
  | [v0, v1, v2, v3, v4], _ =>
    exact (dss_cons (ds_set (i := 5) sc_own_pool_year.nd rfl (.inl rfl) (de_call (FnG.mono G_parts_alive (by decide)) hr hgd (takes_of rfl rfl rfl rfl) (kbn_ofD F_parts_alive 3 [] [0, 1, 2] fun _ _ _ _ _ _ us ws h1 h2 => match us, ws, h1, h2 with | [_, _, _], [], _, _ => rfl) rfl gd.f_parts_alive F_parts_alive.kp rfl (da_cons (de_var 0 rfl rfl (.inl rfl)) (da_cons (de_var 1 rfl rfl (.inl rfl)) (da_cons (de_var 2 rfl rfl (.inl rfl)) da_nil))) dk_nil rfl rfl) (.a (.a (.a (.a (.a (.s (.s (.s (.s .nil)))))))))) (dss_cons (ds_par2 rfl sc_own_pool_year.nd rfl rfl (by decide) rfl rfl (dao_O (DE.doz (de_call (FnG.mono G_used_of (by decide)) hr hgd (takes_of rfl rfl rfl rfl) (kbn_ofD F_used_of 2 [] [0, 1] fun _ _ _ _ _ _ us ws h1 h2 => match us, ws, h1, h2 with | [_, _], [], _, _ => rfl) rfl gd.f_used_of F_used_of.kp rfl (da_cons (de_var 5 rfl rfl (.inl rfl)) (da_cons (de_var 3 rfl rfl (.inl rfl)) da_nil)) dk_nil rfl rfl)) (dao_O (DE.doz (de_b (call_max2 rfl) vb_max rfl gd.b_max boot_max (dac_of (da_cons de_int (da_cons (de_var 4 rfl rfl (.inl rfl)) da_nil))))) dao_nil)) (.a (.a (.a (.a (.a (.a (.s (.s (.s .nil))))))))) rfl) (dss_cons (ds_set (i := 8) sc_own_pool_year.nd rfl (.inl rfl) (de_call (FnG.mono G_parts_without (by decide)) hr hgd (takes_of rfl rfl rfl rfl) (kbn_ofD F_parts_without 2 [] [0, 1] fun _ _ _ _ _ _ us ws h1 h2 => match us, ws, h1, h2 with | [_, _], [], _, _ => rfl) rfl gd.f_parts_without F_parts_without.kp rfl (da_cons (de_var 5 rfl rfl (.inl rfl)) (da_cons (de_var 6 rfl rfl (.inl rfl)) da_nil)) dk_nil rfl rfl) (.a (.a (.a (.a (.a (.a (.a (.a (.s .nil)))))))))) (dss_one (ds_ret (de_tup (da_cons (de_op op_sub vop_sub (de_call (FnG.mono G_all_kept (by decide)) hr hgd (takes_of rfl rfl rfl rfl) (kbn_ofD F_all_kept 1 [] [0] fun _ _ _ _ _ _ us ws h1 h2 => match us, ws, h1, h2 with | [_], [], _, _ => rfl) rfl gd.f_all_kept F_all_kept.kp rfl (da_cons (de_var 0 rfl rfl (.inl rfl)) da_nil) dk_nil rfl rfl) (de_call (FnG.mono G_all_kept (by decide)) hr hgd (takes_of rfl rfl rfl rfl) (kbn_ofD F_all_kept 1 [] [0] fun _ _ _ _ _ _ us ws h1 h2 => match us, ws, h1, h2 with | [_], [], _, _ => rfl) rfl gd.f_all_kept F_all_kept.kp rfl (da_cons (de_var 5 rfl rfl (.inl rfl)) da_nil) dk_nil rfl rfl)) (da_cons (de_var 6 rfl rfl (.inl rfl)) (da_cons (de_var 7 rfl rfl (.inl rfl)) (da_cons (de_if (dt_cmp op_gt vc_i2 (de_var 7 rfl rfl (.inl rfl)) (DR.dc (DE.dr de_int)) rfl) (de_op op_addX vop_add (de_var 8 rfl rfl (.inl rfl)) (de_tup (da_cons (de_tup (da_cons (de_var 1 rfl rfl (.inl rfl)) (da_cons (de_var 7 rfl rfl (.inl rfl)) da_nil))) da_nil))) (de_var 8 rfl rfl (.inl rfl))) da_nil))))) rfl (.a (.a (.a (.a (.a (.a (.a (.a (.a .nil))))))))) (.a (.a (.a (.a (.a (.a (.a (.a (.a .nil))))))))))))))
set_option maxHeartbeats 4000000 in
theorem ok_pool_year (gd : Gd K mg) (hsys : SysOk base) {fd : FuncData} (F : Fd K "pool_year" st_pool_year fd) : KBn K fd ["parts", "year", "life", "wanted", "added"] 5 [] (fun us ws => us) (fun vs zs => vs) ∧ FnG P w K mg base 5 (He.ga K "pool_year") fd ["parts", "year", "life", "wanted", "added"] (spD K mg [.fz, .fz, .fz, .fz, .fz] (.fz) mf_pool_year) := by
  obtain ⟨fd_is_whole, F_is_whole⟩ := gd.d_is_whole
  obtain ⟨K_is_whole, G_is_whole⟩ := ok_is_whole (P := P) (w := w) gd hsys F_is_whole
  obtain ⟨fd_is_from_to, F_is_from_to⟩ := gd.d_is_from_to
  obtain ⟨K_is_from_to, G_is_from_to⟩ := ok_is_from_to (P := P) (w := w) gd hsys F_is_from_to
  obtain ⟨fd_are_parts, F_are_parts⟩ := gd.d_are_parts
  obtain ⟨K_are_parts, G_are_parts⟩ := ok_are_parts (P := P) (w := w) gd hsys F_are_parts
  obtain ⟨fd_own_pool_year, F_own_pool_year⟩ := gd.d_own_pool_year
  obtain ⟨K_own_pool_year, G_own_pool_year⟩ := ok_own_pool_year (P := P) (w := w) gd hsys F_own_pool_year
  obtain ⟨t_MOST_LIFE, c_MOST_LIFE⟩ := gd.c_MOST_LIFE
  obtain ⟨t_MOST_YEAR, c_MOST_YEAR⟩ := gd.c_MOST_YEAR
  refine ⟨kpos_ofD F (fun _ _ _ _ _ _ us h => match us, h with | [_, _, _, _, _], _ => rfl), fn_d F sc_pool_year rfl rfl fun cdv A outer s H vs E hr hgd hv => ?_⟩
  match vs, hv with
  | [v0, v1, v2, v3, v4], _ =>
    exact (dss_cons (ds_if (G' := [.fz, .fz, .fz, .fz, .fz]) (DW.dt (dw_or (dt_not (dt_val (de_call (FnG.mono G_are_parts (by decide)) hr hgd (takes_of rfl rfl rfl rfl) (kbn_ofD F_are_parts 1 [] [0] fun _ _ _ _ _ _ us ws h1 h2 => match us, ws, h1, h2 with | [_], [], _, _ => rfl) rfl gd.f_are_parts F_are_parts.kp rfl (da_cons (de_var 0 rfl rfl (.inl rfl)) da_nil) dk_nil rfl rfl))) (dw_or (dt_not (dt_val (de_call (FnG.mono G_is_from_to (by decide)) hr hgd (takes_of rfl rfl rfl rfl) (kbn_ofD F_is_from_to 3 [] [0, 1, 2] fun _ _ _ _ _ _ us ws h1 h2 => match us, ws, h1, h2 with | [_, _, _], [], _, _ => rfl) rfl gd.f_is_from_to F_is_from_to.kp rfl (da_cons (de_var 1 rfl rfl (.inl rfl)) (da_cons de_int (da_cons (de_globI rfl c_MOST_YEAR) da_nil))) dk_nil rfl rfl))) (dw_or1 (dt_not (dt_val (de_call (FnG.mono G_is_from_to (by decide)) hr hgd (takes_of rfl rfl rfl rfl) (kbn_ofD F_is_from_to 3 [] [0, 1, 2] fun _ _ _ _ _ _ us ws h1 h2 => match us, ws, h1, h2 with | [_, _, _], [], _, _ => rfl) rfl gd.f_is_from_to F_is_from_to.kp rfl (da_cons (de_var 2 rfl rfl (.inl rfl)) (da_cons de_int (da_cons (de_globI rfl c_MOST_LIFE) da_nil))) dk_nil rfl rfl))))))) (dss_one ds_never) dss_nil (.a (.a (.a (.a (.a .nil)))))) (dss_cons (ds_if (G' := [.fz, .fz, .fz, .fz, .fz]) (DW.dt (dw_and (dt_cmp (op_neX (u64 hr)) vc_ne (de_var 0 rfl rfl (.inl rfl)) (DR.dc (DE.dr (de_tup da_nil))) rfl) (dw_and1 (dt_cmp op_ge vc_i2 (de_ix (de_ix (de_var 0 rfl rfl (.inl rfl)) (de_neg de_int)) de_int) (DR.dc (DE.dr (de_var 1 rfl rfl (.inl rfl)))) rfl)))) (dss_one ds_never) dss_nil (.a (.a (.a (.a (.a .nil)))))) (dss_cons (ds_if (G' := [.fz, .fz, .fz, .fz, .fz]) (DW.dt (dw_or (dt_not (dt_val (de_call (FnG.mono G_is_whole (by decide)) hr hgd (takes_of rfl rfl rfl rfl) (kbn_ofD F_is_whole 1 [] [0] fun _ _ _ _ _ _ us ws h1 h2 => match us, ws, h1, h2 with | [_], [], _, _ => rfl) rfl gd.f_is_whole F_is_whole.kp rfl (da_cons (de_var 3 rfl rfl (.inl rfl)) da_nil) dk_nil rfl rfl))) (dw_or1 (dt_not (dt_val (de_call (FnG.mono G_is_whole (by decide)) hr hgd (takes_of rfl rfl rfl rfl) (kbn_ofD F_is_whole 1 [] [0] fun _ _ _ _ _ _ us ws h1 h2 => match us, ws, h1, h2 with | [_], [], _, _ => rfl) rfl gd.f_is_whole F_is_whole.kp rfl (da_cons (de_var 4 rfl rfl (.inl rfl)) da_nil) dk_nil rfl rfl)))))) (dss_one ds_never) dss_nil (.a (.a (.a (.a (.a .nil)))))) (dss_one (ds_ret (de_call (FnG.mono G_own_pool_year (by decide)) hr hgd (takes_of rfl rfl rfl rfl) (kbn_ofD F_own_pool_year 5 [] [0, 1, 2, 3, 4] fun _ _ _ _ _ _ us ws h1 h2 => match us, ws, h1, h2 with | [_, _, _, _, _], [], _, _ => rfl) rfl gd.f_own_pool_year F_own_pool_year.kp rfl (da_cons (de_var 0 rfl rfl (.inl rfl)) (da_cons (de_var 1 rfl rfl (.inl rfl)) (da_cons (de_var 2 rfl rfl (.inl rfl)) (da_cons (de_var 3 rfl rfl (.inl rfl)) (da_cons (de_var 4 rfl rfl (.inl rfl)) da_nil))))) dk_nil rfl rfl) rfl (.a (.a (.a (.a (.a .nil))))) (.a (.a (.a (.a (.a .nil))))))))))
set_option maxHeartbeats 4000000 in
theorem ok__law_cell (gd : Gd K mg) (hsys : SysOk base) {fd : FuncData} (F : Fd K "_law_cell" st__law_cell fd) : KBn K fd ["_law_cells", "_law_spot"] 2 [] (fun us ws => us) (fun vs zs => vs) ∧ FnG P w K mg base 1 (He.ga K "_law_cell") fd ["_law_cells", "_law_spot"] (spD K mg [.fz, .lst .fz] (.fz) mf__law_cell) := by
  refine ⟨kpos_ofD F (fun _ _ _ _ _ _ us h => match us, h with | [_, _], _ => rfl), fn_d F sc__law_cell rfl rfl fun cdv A outer s H vs E hr hgd hv => ?_⟩
  match vs, hv with
  | [v0, v1], _ =>
    exact (dss_cons (ds_asg (de_op op_addX vop_add (de_ixR (dr_var 1 rfl (.at_ .lst) rfl (.inl rfl)) de_int) de_int) (dt_set (W := W0) 1 rfl (.at_ .lst) rfl (.inl rfl) de_int) (.a (.s (.s (.s (.s (.s .nil))))))) (dss_cons (ds_set (i := 2) sc__law_cell.nd rfl (.inl rfl) (de_ixR (dr_var 1 rfl (.at_ .lst) rfl (.inl rfl)) de_int) (.a (.s (.s (.s (.s (.s .nil))))))) (dss_cons (ds_set (i := 3) sc__law_cell.nd rfl (.inl rfl) (de_op op_addX vop_add (de_op op_mulX vop_mul (de_op op_mulX vop_mul de_int (de_var 2 rfl rfl (.inl rfl))) (de_var 2 rfl rfl (.inl rfl))) (de_op op_mulX vop_mul de_int (de_var 2 rfl rfl (.inl rfl)))) (.a (.s (.a (.s (.s (.s .nil))))))) (dss_cons (ds_if (G' := [.fz, .at_ v1 (.lst .fz), .fz, .fz, .any, .any]) (DW.dt (dw_and (dt_cmp op_gt vc_i2 (de_b call_len vb_len rfl gd.b_len boot_len (dac_one (DR.dc (DE.dr (de_var 0 rfl rfl (.inl rfl)))))) (DR.dc (DE.dr de_int)) rfl) (dw_and (dt_cmp op_ge vc_i2 (de_ix (de_var 0 rfl rfl (.inl rfl)) (de_op op_mod vop_mod (de_var 2 rfl rfl (.inl rfl)) (de_b call_len vb_len rfl gd.b_len boot_len (dac_one (DR.dc (DE.dr (de_var 0 rfl rfl (.inl rfl)))))))) (DR.dc (DE.dr (de_op op_pow vop_pow de_int de_int))) rfl) (dw_and1 (dt_cmp op_lt vc_i2 (de_op op_fdivW vop_fdiv (de_var 2 rfl rfl (.inl rfl)) (de_b call_len vb_len rfl gd.b_len boot_len (dac_one (DR.dc (DE.dr (de_var 0 rfl rfl (.inl rfl))))))) (DR.dc (DE.dr de_int)) rfl))))) (dss_cons (ds_set (i := 4) sc__law_cell.nd rfl (.inl rfl) (de_ix (de_var 0 rfl rfl (.inl rfl)) (de_op op_mod vop_mod (de_var 2 rfl rfl (.inl rfl)) (de_b call_len vb_len rfl gd.b_len boot_len (dac_one (DR.dc (DE.dr (de_var 0 rfl rfl (.inl rfl)))))))) (.a (.s (.a (.a (.s (.s .nil))))))) (dss_cons (ds_for (Gh := [.fz, .at_ v1 (.lst .fz), .fz, .fz, .fz, .any]) (passes_of rfl) rfl (di_rng1 rfl gd.b_range (da_cons (de_op op_fdivW vop_fdiv (de_var 2 rfl rfl (.inl rfl)) (de_b call_len vb_len rfl gd.b_len boot_len (dac_one (DR.dc (DE.dr (de_var 0 rfl rfl (.inl rfl))))))) da_nil)) (dt_name 5 sc__law_cell.nd rfl (.inl rfl)) (dss_cons (ds_set (i := 4) sc__law_cell.nd rfl (.inl rfl) (de_op op_fdivW vop_fdiv (de_var 4 rfl rfl (.inl rfl)) de_int) (.a (.s (.a (.a (.a (.a .nil))))))) (DSs.wk dss_nil (.s (.s (.s (.s (.s (.a .nil)))))))) (.s (.s (.s (.s (.s (.s .nil)))))) (.a (.s (.a (.a (.a (.s .nil))))))) (dss_cons (ds_if (G' := [.fz, .at_ v1 (.lst .fz), .fz, .fz, .fz, .any]) (dt_cmp op_gt vc_i2 (de_var 4 rfl rfl (.inl rfl)) (DR.dc (DE.dr de_int)) rfl) (dss_one (ds_ret (de_op op_mod vop_mod (de_var 4 rfl rfl (.inl rfl)) de_int) rfl (.a (.s (.a (.a (.a (.s .nil)))))) (.a (.s (.a (.a (.a (.s .nil)))))))) dss_nil (.a (.s (.a (.a (.a (.s .nil))))))) (DSs.wk dss_nil (.s (.s (.s (.s (.a (.s .nil)))))))))) dss_nil (.a (.s (.a (.a (.s (.s .nil))))))) (dss_cons (ds_if (G' := [.fz, .at_ v1 (.lst .fz), .fz, .fz, .any, .any]) (dt_cmp op_gt vc_i2 (de_b call_len vb_len rfl gd.b_len boot_len (dac_one (DR.dc (DE.dr (de_var 0 rfl rfl (.inl rfl)))))) (DR.dc (DE.dr de_int)) rfl) (dss_cons (ds_set (i := 3) sc__law_cell.nd rfl (.inl rfl) (de_op op_addX vop_add (de_var 3 rfl rfl (.inl rfl)) (de_op op_mulX vop_mul (de_op op_mod vop_mod (de_ix (de_var 0 rfl rfl (.inl rfl)) (de_op op_mod vop_mod (de_var 2 rfl rfl (.inl rfl)) (de_b call_len vb_len rfl gd.b_len boot_len (dac_one (DR.dc (DE.dr (de_var 0 rfl rfl (.inl rfl)))))))) de_int) (de_op op_addX vop_add de_int (de_op op_fdivW vop_fdiv (de_var 2 rfl rfl (.inl rfl)) (de_b call_len vb_len rfl gd.b_len boot_len (dac_one (DR.dc (DE.dr (de_var 0 rfl rfl (.inl rfl)))))))))) (.a (.s (.a (.a (.s (.s .nil))))))) dss_nil) dss_nil (.a (.s (.a (.a (.s (.s .nil))))))) (dss_one (ds_ret (de_op op_fdivW vop_fdiv (de_op op_mod vop_mod (de_op op_pow vop_pow (de_op op_mod vop_mod (de_var 3 rfl rfl (.inl rfl)) de_int) de_int) de_int) de_int) rfl (.a (.s (.a (.a (.s (.s .nil)))))) (.a (.s (.a (.a (.s (.s .nil)))))))))))))
set_option maxHeartbeats 4000000 in
theorem ok__law_kept (gd : Gd K mg) (hsys : SysOk base) {fd : FuncData} (F : Fd K "_law_kept" st__law_kept fd) : KBn K fd ["_law_cells", "_law_spot"] 2 [] (fun us ws => us) (fun vs zs => vs) ∧ FnG P w K mg base 2 (He.ga K "_law_kept") fd ["_law_cells", "_law_spot"] (spD K mg [.fz, .lst .fz] (.fz) mf__law_kept) := by
  obtain ⟨fd__law_cell, F__law_cell⟩ := gd.d__law_cell
  obtain ⟨K__law_cell, G__law_cell⟩ := ok__law_cell (P := P) (w := w) gd hsys F__law_cell
  refine ⟨kpos_ofD F (fun _ _ _ _ _ _ us h => match us, h with | [_, _], _ => rfl), fn_d F sc__law_kept rfl rfl fun cdv A outer s H vs E hr hgd hv => ?_⟩
  match vs, hv with
  | [v0, v1], _ =>
    exact (dss_cons (ds_par3 rfl sc__law_kept.nd rfl rfl rfl (by decide) (by decide) (by decide) rfl rfl rfl (dao_O (DE.doz (de_callO (FnG.mono G__law_cell (by decide)) hr hgd (takes_of rfl rfl rfl rfl) K__law_cell rfl gd.f__law_cell F__law_cell.kp rfl (dg_val (de_var 0 rfl rfl (.inl rfl)) (dg_ownA 1 rfl rfl (.inl rfl) dg_nil)))) (dao_O (do_lst da_nil) (dao_O (DE.doz (de_op op_addX vop_add de_int (de_op op_mod vop_mod (de_callO (FnG.mono G__law_cell (by decide)) hr hgd (takes_of rfl rfl rfl rfl) K__law_cell rfl gd.f__law_cell F__law_cell.kp rfl (dg_val (de_var 0 rfl rfl (.inl rfl)) (dg_ownA 1 rfl rfl (.inl rfl) dg_nil))) de_int))) dao_nil))) (.a (.s (.s (.s (.s (.s (.s .nil))))))) rfl) (dss_cons (ds_for (Gh := [.fz, .at_ v1 (.lst .fz), .fz, .lst .fz, .fz, .any, .any]) (passes_of rfl) rfl (di_rng1 rfl gd.b_range (da_cons (de_op op_mod vop_mod (de_var 2 rfl rfl (.inl rfl)) de_int) da_nil)) (dt_name 5 sc__law_kept.nd rfl (.inl rfl)) (dss_cons (ds_set (i := 6) sc__law_kept.nd rfl (.inl rfl) (de_callO (FnG.mono G__law_cell (by decide)) hr hgd (takes_of rfl rfl rfl rfl) K__law_cell rfl gd.f__law_cell F__law_cell.kp rfl (dg_val (de_var 0 rfl rfl (.inl rfl)) (dg_ownA 1 rfl rfl (.inl rfl) dg_nil))) (.a (.s (.a (.a (.a (.a (.s .nil)))))))) (dss_cons (ds_exp (de_mut 3 PySem.F.slot_list_append PySem.F.type_list_append mt_append vm_append rfl .lst rfl (.inl rfl) (da_cons (de_tup (da_cons (de_var 4 rfl rfl (.inl rfl)) (da_cons (de_op op_addX vop_add de_int (de_op op_mod vop_mod (de_op op_fdivW vop_fdiv (de_var 6 rfl rfl (.inl rfl)) de_int) (de_ix (DO.de (do_lst (da_cons de_int (da_cons de_int (da_cons (de_op op_pow vop_pow de_int de_int) (da_cons (de_op op_pow vop_pow de_int de_int) da_nil))))) rfl) (de_op op_mod vop_mod (de_var 6 rfl rfl (.inl rfl)) de_int)))) da_nil))) da_nil)) (.a (.s (.a (.a (.a (.a (.a .nil)))))))) (dss_cons (ds_set (i := 4) sc__law_kept.nd rfl (.inl rfl) (de_op op_addX vop_add (de_var 4 rfl rfl (.inl rfl)) (de_ix (DO.de (do_lst (da_cons de_int (da_cons de_int (da_cons de_int (da_cons de_int da_nil))))) rfl) (de_op op_mod vop_mod (de_op op_fdivW vop_fdiv (de_var 6 rfl rfl (.inl rfl)) de_int) de_int))) (.a (.s (.a (.a (.a (.a (.a .nil)))))))) (DSs.wk dss_nil (.s (.s (.s (.s (.s (.a (.a .nil))))))))))) (.s (.s (.s (.s (.s (.s (.s .nil))))))) (.a (.s (.a (.a (.a (.s (.s .nil)))))))) (dss_one (ds_ret (de_tup (da_cons (de_tupc rfl gd.b_tuple (dr_var 3 rfl .lst rfl (.inl rfl)) boot_tuple) (da_cons (de_var 4 rfl rfl (.inl rfl)) da_nil))) rfl (.a (.s (.a (.a (.a (.s (.s .nil))))))) (.a (.s (.a (.a (.a (.s (.s .nil)))))))))))
set_option maxHeartbeats 4000000 in
theorem ok__law_due (gd : Gd K mg) (hsys : SysOk base) {fd : FuncData} (F : Fd K "_law_due" st__law_due fd) : KBn K fd ["_law_kept_here", "_law_when", "_law_span", "_law_want", "_law_more"] 5 [] (fun us ws => us) (fun vs zs => vs) ∧ FnG P w K mg base 1 (He.ga K "_law_due") fd ["_law_kept_here", "_law_when", "_law_span", "_law_want", "_law_more"] (spD K mg [.fz, .fz, .fz, .fz, .fz] (.fz) mf__law_due) := by
  refine ⟨kpos_ofD F (fun _ _ _ _ _ _ us h => match us, h with | [_, _, _, _, _], _ => rfl), fn_d F sc__law_due rfl rfl fun cdv A outer s H vs E hr hgd hv => ?_⟩
  match vs, hv with
  | [v0, v1, v2, v3, v4], _ =>
    exact (dss_cons (ds_set (i := 5) sc__law_due.nd rfl (.inl rfl) (de_b (cr_sum rfl) vb_sum rfl gd.b_sum boot_sum (dac_one (DR.dc (DE.dr (DO.de (do_lc (own := [(("_law_begin" : Str), 10), (("_law_number" : Str), 11)]) rfl sc__law_due.nd (blkOk_by (by rfl)) (di_val (de_var 0 rfl rfl (.inl rfl))) (fun _ _ _ _ _ => (dt_tup rfl (dts_cons (dt_name 10 sc__law_due.nd rfl (.inl rfl)) (dts_cons (dt_name 11 sc__law_due.nd rfl (.inl rfl)) dts_nil)))) (fun _ _ _ _ _ => (dtb_one (dt_cmp op_lt vc_i2 (de_op op_addX vop_add (de_var 10 rfl rfl (.inl rfl)) (de_var 2 rfl rfl (.inr (.inl rfl)))) (DR.dc (DE.dr (de_var 1 rfl rfl (.inr (.inl rfl))))) rfl))) (fun _ _ _ _ _ => (de_var 11 rfl rfl (.inl rfl))) (by decide) rfl (by decide) (fa_cons (.inr rfl) (fa_cons (.inr rfl) fa_nil))) rfl))))) (.a (.a (.a (.a (.a (.s (.s (.s (.s (.s (.s (.s (.s (.s .nil))))))))))))))) (dss_cons (ds_setLc (own := [(("_law_begin" : Str), 10), (("_law_number" : Str), 11)]) rfl sc__law_due.nd rfl rfl (sw_true rfl rfl rfl rfl) (blkOk_by (by rfl)) (di_val (de_var 0 rfl rfl (.inl rfl))) (fun _ _ _ _ _ => (dt_tup rfl (dts_cons (dt_name 10 sc__law_due.nd rfl (.inl rfl)) (dts_cons (dt_name 11 sc__law_due.nd rfl (.inl rfl)) dts_nil)))) (fun _ _ _ _ _ => (dtb_one (dt_cmp op_ge vc_i2 (de_op op_addX vop_add (de_var 10 rfl rfl (.inl rfl)) (de_var 2 rfl rfl (.inr (.inl rfl)))) (DR.dc (DE.dr (de_var 1 rfl rfl (.inr (.inl rfl))))) rfl))) (fun _ _ _ _ _ => (de_tup (da_cons (de_var 10 rfl rfl (.inl rfl)) (da_cons (de_var 11 rfl rfl (.inl rfl)) da_nil)))) (by decide) rfl (by decide) (fa_cons (.inr rfl) (fa_cons (.inr rfl) fa_nil)) (.a (.a (.a (.a (.a (.a (.s (.s (.s (.s (.s (.s (.s (.s .nil))))))))))))))) (DSs.freeze 6 rfl rfl (dss_cons (ds_set (i := 7) sc__law_due.nd rfl (.inl rfl) (de_b (call_max2 rfl) vb_max rfl gd.b_max boot_max (dac_of (da_cons de_int (da_cons (de_b (call_min2 rfl) vb_min rfl gd.b_min boot_min (dac_of (da_cons (de_var 3 rfl rfl (.inl rfl)) (da_cons (de_b (cr_sum rfl) vb_sum rfl gd.b_sum boot_sum (dac_one (DR.dc (DE.dr (DO.de (do_lc (own := [(("_law_begin" : Str), 10), (("_law_number" : Str), 11)]) rfl sc__law_due.nd (blkOk_by (by rfl)) (di_val (de_var 6 rfl rfl (.inl rfl))) (fun _ _ _ _ _ => (dt_tup rfl (dts_cons (dt_name 10 sc__law_due.nd rfl (.inl rfl)) (dts_cons (dt_name 11 sc__law_due.nd rfl (.inl rfl)) dts_nil)))) (fun _ _ _ _ _ => dtb_nil) (fun _ _ _ _ _ => (de_var 11 rfl rfl (.inl rfl))) (by decide) rfl (by decide) (fa_cons (.inr rfl) (fa_cons (.inr rfl) fa_nil))) rfl))))) da_nil)))) da_nil)))) (.a (.a (.a (.a (.a (.a (.a (.s (.s (.s (.s (.s (.s (.s .nil))))))))))))))) (dss_cons (ds_par2 rfl sc__law_due.nd rfl rfl (by decide) rfl rfl (dao_O (do_lst da_nil) (dao_O (DE.doz de_int) dao_nil)) (.a (.a (.a (.a (.a (.a (.a (.a (.s (.s (.s (.s (.s (.s .nil)))))))))))))) rfl) (dss_cons (ds_for (Gh := [.fz, .fz, .fz, .fz, .fz, .fz, .fz, .fz, .lst .fz, .fz, .any, .any, .any, .any]) (passes_of rfl) rfl (di_val (de_var 6 rfl rfl (.inl rfl))) (dt_tup rfl (dts_cons (dt_name 10 sc__law_due.nd rfl (.inl rfl)) (dts_cons (dt_name 11 sc__law_due.nd rfl (.inl rfl)) dts_nil))) (dss_cons (ds_set (i := 12) sc__law_due.nd rfl (.inl rfl) (de_b (call_max2 rfl) vb_max rfl gd.b_max boot_max (dac_of (da_cons de_int (da_cons (de_b (call_min2 rfl) vb_min rfl gd.b_min boot_min (dac_of (da_cons (de_var 11 rfl rfl (.inl rfl)) (da_cons (de_op op_sub vop_sub (de_var 7 rfl rfl (.inl rfl)) (de_var 9 rfl rfl (.inl rfl))) da_nil)))) da_nil)))) (.a (.a (.a (.a (.a (.a (.a (.a (.a (.a (.a (.a (.s (.s .nil))))))))))))))) (dss_cons (ds_exp (de_mut 8 PySem.F.slot_list_append PySem.F.type_list_append mt_append vm_append rfl .lst rfl (.inl rfl) (da_cons (de_tup (da_cons (de_var 10 rfl rfl (.inl rfl)) (da_cons (de_op op_sub vop_sub (de_var 11 rfl rfl (.inl rfl)) (de_var 12 rfl rfl (.inl rfl))) da_nil))) da_nil)) (.a (.a (.a (.a (.a (.a (.a (.a (.a (.a (.a (.a (.a (.s .nil))))))))))))))) (dss_cons (ds_set (i := 9) sc__law_due.nd rfl (.inl rfl) (de_op op_addX vop_add (de_var 9 rfl rfl (.inl rfl)) (de_var 11 rfl rfl (.inl rfl))) (.a (.a (.a (.a (.a (.a (.a (.a (.a (.a (.a (.a (.a (.s .nil))))))))))))))) (DSs.wk dss_nil (.s (.s (.s (.s (.s (.s (.s (.s (.s (.s (.a (.a (.a (.s .nil)))))))))))))))))) (.s (.s (.s (.s (.s (.s (.s (.s (.s (.s (.s (.s (.s (.s .nil)))))))))))))) (.a (.a (.a (.a (.a (.a (.a (.a (.a (.a (.s (.s (.s (.s .nil))))))))))))))) (DSs.freeze 8 rfl rfl (dss_cons (ds_setLc (own := [(("_law_one" : Str), 13)]) rfl sc__law_due.nd rfl rfl (sw_true rfl rfl rfl rfl) (blkOk_by (by rfl)) (di_val (de_op op_addX vop_add (de_var 8 rfl rfl (.inl rfl)) (DO.de (do_lst (da_cons (de_tup (da_cons (de_var 1 rfl rfl (.inr (.inl rfl))) (da_cons (de_b (call_max2 rfl) vb_max rfl gd.b_max boot_max (dac_of (da_cons de_int (da_cons (de_var 4 rfl rfl (.inl rfl)) da_nil)))) da_nil))) da_nil)) rfl))) (fun _ _ _ _ _ => (dt_name 13 sc__law_due.nd rfl (.inl rfl))) (fun _ _ _ _ _ => (dtb_one (dt_cmp op_gt vc_i2 (de_ix (de_var 13 rfl rfl (.inl rfl)) de_int) (DR.dc (DE.dr de_int)) rfl))) (fun _ _ _ _ _ => (de_var 13 rfl rfl (.inl rfl))) (by decide) rfl (by decide) (fa_cons (.inr rfl) fa_nil) (.a (.a (.a (.a (.a (.a (.a (.a (.a (.a (.s (.s (.s (.s .nil))))))))))))))) (dss_one (ds_ret (de_tup (da_cons (de_var 5 rfl rfl (.inl rfl)) (da_cons (de_var 7 rfl rfl (.inl rfl)) (da_cons (de_b (call_max2 rfl) vb_max rfl gd.b_max boot_max (dac_of (da_cons de_int (da_cons (de_var 4 rfl rfl (.inl rfl)) da_nil)))) (da_cons (de_tupc rfl gd.b_tuple (dr_var 8 rfl .lst rfl (.inl rfl)) boot_tuple) da_nil))))) rfl (.a (.a (.a (.a (.a (.a (.a (.a (.a (.a (.s (.s (.s (.s .nil)))))))))))))) (.a (.a (.a (.a (.a (.a (.a (.a (.a (.a (.s (.s (.s (.s .nil))))))))))))))))))))))))
set_option maxHeartbeats 4000000 in
theorem ok_law (gd : Gd K mg) (hsys : SysOk base) {fd : FuncData} (F : Fd K "law" st_law fd) : KBn K fd ["_law_script"] 1 [] (fun us ws => us) (fun vs zs => vs) ∧ FnG P w K mg base 6 (He.ga K "law") fd ["_law_script"] (spD K mg [.fz] (.fz) mf_law) := by
  obtain ⟨fd_are_parts, F_are_parts⟩ := gd.d_are_parts
  obtain ⟨K_are_parts, G_are_parts⟩ := ok_are_parts (P := P) (w := w) gd hsys F_are_parts
  obtain ⟨fd_pool_year, F_pool_year⟩ := gd.d_pool_year
  obtain ⟨K_pool_year, G_pool_year⟩ := ok_pool_year (P := P) (w := w) gd hsys F_pool_year
  obtain ⟨fd__law_cell, F__law_cell⟩ := gd.d__law_cell
  obtain ⟨K__law_cell, G__law_cell⟩ := ok__law_cell (P := P) (w := w) gd hsys F__law_cell
  obtain ⟨fd__law_kept, F__law_kept⟩ := gd.d__law_kept
  obtain ⟨K__law_kept, G__law_kept⟩ := ok__law_kept (P := P) (w := w) gd hsys F__law_kept
  obtain ⟨fd__law_due, F__law_due⟩ := gd.d__law_due
  obtain ⟨K__law_due, G__law_due⟩ := ok__law_due (P := P) (w := w) gd hsys F__law_due
  refine ⟨kpos_ofD F (fun _ _ _ _ _ _ us h => match us, h with | [_], _ => rfl), fn_d F sc_law rfl rfl fun cdv A outer s H vs E hr hgd hv => ?_⟩
  match vs, hv with
  | [v0], _ =>
    exact (dss_cons (ds_setO (i := 1) sc_law.nd rfl (.inl rfl) (do_lst (da_cons de_int da_nil)) (.a (.s (.s (.s (.s (.s (.s (.s (.s (.s (.s (.s (.s (.s (.s (.s (.s (.s .nil))))))))))))))))))) (dss_cons (ds_for (Gh := [.fz, .lst .fz, .any, .any, .any, .any, .any, .any, .any, .any, .any, .any, .any, .any, .any, .any, .any, .any]) (passes_of rfl) rfl (di_rng1 rfl gd.b_range (da_cons (de_op op_addX vop_add de_int (de_b (call_min2 rfl) vb_min rfl gd.b_min boot_min (dac_of (da_cons de_int (da_cons (de_op op_fdivW vop_fdiv (de_b call_len vb_len rfl gd.b_len boot_len (dac_one (DR.dc (DE.dr (de_var 0 rfl rfl (.inl rfl)))))) de_int) da_nil))))) da_nil)) (dt_name 2 sc_law.nd rfl (.inl rfl)) (dss_cons (ds_asg (de_tup (da_cons (de_callO (FnG.mono G__law_kept (by decide)) hr hgd (takes_of rfl rfl rfl rfl) K__law_kept rfl gd.f__law_kept F__law_kept.kp rfl (dg_val (de_var 0 rfl rfl (.inl rfl)) (dg_own 1 rfl rfl (.inl rfl) dg_nil))) (da_cons (de_callO (FnG.mono G__law_cell (by decide)) hr hgd (takes_of rfl rfl rfl rfl) K__law_cell rfl gd.f__law_cell F__law_cell.kp rfl (dg_val (de_var 0 rfl rfl (.inl rfl)) (dg_own 1 rfl rfl (.inl rfl) dg_nil))) (da_cons (de_callO (FnG.mono G__law_cell (by decide)) hr hgd (takes_of rfl rfl rfl rfl) K__law_cell rfl gd.f__law_cell F__law_cell.kp rfl (dg_val (de_var 0 rfl rfl (.inl rfl)) (dg_own 1 rfl rfl (.inl rfl) dg_nil))) da_nil)))) (dt_tup rfl (dts_cons (dt_tup rfl (dts_cons (dt_name 3 sc_law.nd rfl (.inl rfl)) (dts_cons (dt_name 4 sc_law.nd rfl (.inl rfl)) dts_nil))) (dts_cons (dt_name 5 sc_law.nd rfl (.inl rfl)) (dts_cons (dt_name 6 sc_law.nd rfl (.inl rfl)) dts_nil)))) (.a (.a (.a (.s (.s (.s (.s (.s (.s (.s (.s (.s (.s (.s (.s (.s (.s (.s .nil))))))))))))))))))) (dss_cons (ds_par2 rfl sc_law.nd rfl rfl (by decide) rfl rfl (dao_O (DE.doz (de_op op_addX vop_add (de_var 4 rfl rfl (.inl rfl)) (de_ix (DO.de (do_lst (da_cons de_int (da_cons de_int (da_cons de_int (da_cons de_int (da_cons de_int (da_cons de_int da_nil))))))) rfl) (de_op op_mod vop_mod (de_var 5 rfl rfl (.inl rfl)) de_int)))) (dao_O (DE.doz (de_op op_addX vop_add de_int (de_op op_mod vop_mod (de_op op_fdivW vop_fdiv (de_var 5 rfl rfl (.inl rfl)) de_int) de_int))) dao_nil)) (.a (.a (.a (.a (.a (.a (.a (.s (.s (.s (.s (.s (.s (.s (.s (.s (.s (.s .nil)))))))))))))))))) rfl) (dss_cons (ds_set (i := 8) sc_law.nd rfl (.inl rfl) (de_b (cr_sum rfl) vb_sum rfl gd.b_sum boot_sum (dac_one (DR.dc (DE.dr (DO.de (do_lc (own := [(("_law_begin" : Str), 16), (("_law_number" : Str), 17)]) rfl sc_law.nd (blkOk_by (by rfl)) (di_val (de_var 3 rfl rfl (.inl rfl))) (fun _ _ _ _ _ => (dt_tup rfl (dts_cons (dt_name 16 sc_law.nd rfl (.inl rfl)) (dts_cons (dt_name 17 sc_law.nd rfl (.inl rfl)) dts_nil)))) (fun _ _ _ _ _ => dtb_nil) (fun _ _ _ _ _ => (de_var 17 rfl rfl (.inl rfl))) (by decide) rfl (by decide) (fa_cons (.inr rfl) (fa_cons (.inr rfl) fa_nil))) rfl))))) (.a (.a (.a (.a (.a (.a (.a (.a (.s (.s (.s (.s (.s (.s (.s (.s (.s (.s .nil))))))))))))))))))) (dss_cons (ds_set (i := 9) sc_law.nd rfl (.inl rfl) (DO.de (do_lst (da_cons de_int (da_cons (de_neg de_int) (da_cons (de_var 8 rfl rfl (.inl rfl)) (da_cons (de_op op_addX vop_add (de_var 8 rfl rfl (.inl rfl)) de_int) (da_cons (de_op op_sub vop_sub (de_var 8 rfl rfl (.inl rfl)) de_int) (da_cons (de_op op_fdivW vop_fdiv (de_var 8 rfl rfl (.inl rfl)) de_int) (da_cons (de_if (dt_cmp (op_neX (u64 hr)) vc_ne (de_var 3 rfl rfl (.inl rfl)) (DR.dc (DE.dr (de_tup da_nil))) rfl) (de_ix (de_ix (de_var 3 rfl rfl (.inl rfl)) de_int) de_int) de_int) (da_cons (de_op op_pow vop_pow de_int de_int) da_nil))))))))) rfl) (.a (.a (.a (.a (.a (.a (.a (.a (.a (.s (.s (.s (.s (.s (.s (.s (.s (.s .nil))))))))))))))))))) (dss_cons (ds_par2 rfl sc_law.nd rfl rfl (by decide) rfl rfl (dao_O (DE.doz (de_ix (de_var 9 rfl rfl (.inl rfl)) (de_op op_mod vop_mod (de_var 6 rfl rfl (.inl rfl)) de_int))) (dao_O (DE.doz (de_ix (DO.de (do_lst (da_cons de_int (da_cons (de_neg de_int) (da_cons de_int (da_cons (de_op op_mod vop_mod (de_op op_fdivW vop_fdiv (de_var 6 rfl rfl (.inl rfl)) de_int) de_int) (da_cons (de_op op_pow vop_pow de_int de_int) da_nil)))))) rfl) (de_op op_mod vop_mod (de_op op_fdivW vop_fdiv (de_var 6 rfl rfl (.inl rfl)) de_int) de_int))) dao_nil)) (.a (.a (.a (.a (.a (.a (.a (.a (.a (.a (.s (.s (.s (.s (.s (.s (.s (.s .nil)))))))))))))))))) rfl) (dss_cons (ds_for (Gh := [.fz, .lst .fz, .fz, .fz, .fz, .fz, .fz, .fz, .fz, .fz, .fz, .fz, .any, .any, .any, .any, .any, .any]) (passes_of rfl) rfl (di_rng1 rfl gd.b_range (da_cons de_int da_nil)) (dt_name 12 sc_law.nd rfl (.inl rfl)) (dss_cons (ds_par2 rfl sc_law.nd rfl rfl (by decide) rfl rfl (dao_O (DE.doz (de_call (FnG.mono G__law_due (by decide)) hr hgd (takes_of rfl rfl rfl rfl) (kbn_ofD F__law_due 5 [] [0, 1, 2, 3, 4] fun _ _ _ _ _ _ us ws h1 h2 => match us, ws, h1, h2 with | [_, _, _, _, _], [], _, _ => rfl) rfl gd.f__law_due F__law_due.kp rfl (da_cons (de_var 3 rfl rfl (.inl rfl)) (da_cons (de_var 4 rfl rfl (.inl rfl)) (da_cons (de_var 7 rfl rfl (.inl rfl)) (da_cons (de_var 10 rfl rfl (.inl rfl)) (da_cons (de_var 11 rfl rfl (.inl rfl)) da_nil))))) dk_nil rfl rfl)) (dao_O (DE.doz (de_b (call_reprD hsys hgd (u64 hr)) vb_repr rfl gd.b_repr boot_repr (dac_one (DR.dc (DE.dr (de_var 3 rfl rfl (.inl rfl))))))) dao_nil)) (.a (.a (.a (.a (.a (.a (.a (.a (.a (.a (.a (.a (.a (.s (.s (.s (.s (.s .nil)))))))))))))))))) rfl) (dss_cons (ds_setO (i := 15) sc_law.nd rfl (.inl rfl) (do_lst (da_cons (de_call (FnG.mono G_pool_year (by decide)) hr hgd (takes_of rfl rfl rfl rfl) (kbn_ofD F_pool_year 5 [] [0, 1, 2, 3, 4] fun _ _ _ _ _ _ us ws h1 h2 => match us, ws, h1, h2 with | [_, _, _, _, _], [], _, _ => rfl) rfl gd.f_pool_year F_pool_year.kp rfl (da_cons (de_var 3 rfl rfl (.inl rfl)) (da_cons (de_var 4 rfl rfl (.inl rfl)) (da_cons (de_var 7 rfl rfl (.inl rfl)) (da_cons (de_var 10 rfl rfl (.inl rfl)) (da_cons (de_var 11 rfl rfl (.inl rfl)) da_nil))))) dk_nil rfl rfl) da_nil)) (.a (.a (.a (.a (.a (.a (.a (.a (.a (.a (.a (.a (.a (.a (.a (.s (.s (.s .nil))))))))))))))))))) (dss_cons (ds_exp (de_mut 15 PySem.F.slot_list_append PySem.F.type_list_append mt_append vm_append rfl .lst rfl (.inl rfl) (da_cons (de_call0 (FnG.mono G_pool_year (by decide)) hr hgd (takes_of rfl rfl rfl rfl) (kbn_ofD F_pool_year 0 ["added", "wanted", "life", "year", "parts"] [4, 3, 2, 1, 0] fun _ _ _ _ _ _ us ws h1 h2 => match us, ws, h1, h2 with | [], [_, _, _, _, _], _, _ => rfl) rfl gd.f_pool_year F_pool_year.kp rfl (dk_cons (de_var 11 rfl rfl (.inl rfl)) (dk_cons (de_var 10 rfl rfl (.inl rfl)) (dk_cons (de_var 7 rfl rfl (.inl rfl)) (dk_cons (de_var 4 rfl rfl (.inl rfl)) (dk_cons (de_var 3 rfl rfl (.inl rfl)) dk_nil))))) rfl) da_nil)) (.a (.a (.a (.a (.a (.a (.a (.a (.a (.a (.a (.a (.a (.a (.a (.a (.s (.s .nil))))))))))))))))))) (dss_cons (ds_if (G' := [.fz, .lst .fz, .fz, .fz, .fz, .fz, .fz, .fz, .fz, .fz, .fz, .fz, .fz, .fz, .fz, .lst .fz, .any, .any]) (DW.dt (dw_or (dt_cmp (op_neX (u64 hr)) vc_ne (de_b (call_reprD hsys hgd (u64 hr)) vb_repr rfl gd.b_repr boot_repr (dac_one (DR.dc (dr_var 15 rfl .lst rfl (.inl rfl))))) (DR.dc (DE.dr (de_b (call_reprD hsys hgd (u64 hr)) vb_repr rfl gd.b_repr boot_repr (dac_one (DR.dc (DE.dr (DO.de (do_lst (da_cons (de_var 13 rfl rfl (.inl rfl)) (da_cons (de_var 13 rfl rfl (.inl rfl)) da_nil))) rfl))))))) rfl) (dw_or1 (dt_cmp (op_neX (u64 hr)) vc_ne (de_b (call_reprD hsys hgd (u64 hr)) vb_repr rfl gd.b_repr boot_repr (dac_one (DR.dc (DE.dr (de_var 3 rfl rfl (.inl rfl)))))) (DR.dc (DE.dr (de_var 14 rfl rfl (.inl rfl)))) rfl)))) (dss_one (ds_ret de_bl rfl (.a (.a (.a (.a (.a (.a (.a (.a (.a (.a (.a (.a (.a (.a (.a (.a (.s (.s .nil)))))))))))))))))) (.a (.a (.a (.a (.a (.a (.a (.a (.a (.a (.a (.a (.a (.a (.a (.a (.s (.s .nil)))))))))))))))))))) dss_nil (.a (.a (.a (.a (.a (.a (.a (.a (.a (.a (.a (.a (.a (.a (.a (.a (.s (.s .nil))))))))))))))))))) (dss_cons (ds_par2 rfl sc_law.nd rfl rfl (by decide) rfl rfl (dao_O (DE.doz (de_ix (de_ixR (dr_var 15 rfl .lst rfl (.inl rfl)) de_int) de_int)) (dao_O (DE.doz (de_op op_addX vop_add (de_op op_addX vop_add (de_var 4 rfl rfl (.inl rfl)) de_int) (de_op op_mod vop_mod (de_op op_fdivW vop_fdiv (de_var 6 rfl rfl (.inl rfl)) de_int) de_int))) dao_nil)) (.a (.a (.a (.a (.a (.a (.a (.a (.a (.a (.a (.a (.a (.a (.a (.a (.s (.s .nil)))))))))))))))))) rfl) (dss_cons (ds_if (G' := [.fz, .lst .fz, .fz, .fz, .fz, .fz, .fz, .fz, .fz, .fz, .fz, .fz, .fz, .fz, .fz, .lst .fz, .any, .any]) (dt_cmp op_isNot vc_isNot (de_call (FnG.mono G_are_parts (by decide)) hr hgd (takes_of rfl rfl rfl rfl) (kbn_ofD F_are_parts 1 [] [0] fun _ _ _ _ _ _ us ws h1 h2 => match us, ws, h1, h2 with | [_], [], _, _ => rfl) rfl gd.f_are_parts F_are_parts.kp rfl (da_cons (de_var 3 rfl rfl (.inl rfl)) da_nil) dk_nil rfl rfl) (DR.dc (DE.dr de_bl)) rfl) (dss_one (ds_ret de_bl rfl (.a (.a (.a (.a (.a (.a (.a (.a (.a (.a (.a (.a (.a (.a (.a (.a (.s (.s .nil)))))))))))))))))) (.a (.a (.a (.a (.a (.a (.a (.a (.a (.a (.a (.a (.a (.a (.a (.a (.s (.s .nil)))))))))))))))))))) dss_nil (.a (.a (.a (.a (.a (.a (.a (.a (.a (.a (.a (.a (.a (.a (.a (.a (.s (.s .nil))))))))))))))))))) (DSs.wk dss_nil (.s (.s (.s (.s (.s (.s (.s (.s (.s (.s (.s (.s (.a (.a (.a (.a (.s (.s .nil))))))))))))))))))))))))) (.s (.s (.s (.s (.s (.s (.s (.s (.s (.s (.s (.s (.s (.s (.s (.s (.s (.s .nil)))))))))))))))))) (.a (.a (.a (.a (.a (.a (.a (.a (.a (.a (.a (.a (.s (.s (.s (.s (.s (.s .nil))))))))))))))))))) (DSs.wk dss_nil (.s (.s (.a (.a (.a (.a (.a (.a (.a (.a (.a (.a (.s (.s (.s (.s (.s (.s .nil))))))))))))))))))))))))) (.s (.s (.s (.s (.s (.s (.s (.s (.s (.s (.s (.s (.s (.s (.s (.s (.s (.s .nil)))))))))))))))))) (.a (.a (.s (.s (.s (.s (.s (.s (.s (.s (.s (.s (.s (.s (.s (.s (.s (.s .nil))))))))))))))))))) (dss_one (ds_ret de_bl rfl (.a (.a (.s (.s (.s (.s (.s (.s (.s (.s (.s (.s (.s (.s (.s (.s (.s (.s .nil)))))))))))))))))) (.a (.a (.s (.s (.s (.s (.s (.s (.s (.s (.s (.s (.s (.s (.s (.s (.s (.s .nil))))))))))))))))))))))
end
/-! ### the head -/
def dd_is_whole : He.DefD := ⟨("is_whole", none), "is_whole", "is_whole", defArgs st_is_whole, defBody st_is_whole, defScope st_is_whole, [], []⟩
def dd_is_from_to : He.DefD := ⟨("is_from_to", none), "is_from_to", "is_from_to", defArgs st_is_from_to, defBody st_is_from_to, defScope st_is_from_to, [], []⟩
def dd_is_tuple_of : He.DefD := ⟨("is_tuple_of", none), "is_tuple_of", "is_tuple_of", defArgs st_is_tuple_of, defBody st_is_tuple_of, defScope st_is_tuple_of, [], []⟩
def dd_is_pool_part : He.DefD := ⟨("is_pool_part", none), "is_pool_part", "is_pool_part", defArgs st_is_pool_part, defBody st_is_pool_part, defScope st_is_pool_part, [], []⟩
def dd_are_parts : He.DefD := ⟨("are_parts", none), "are_parts", "are_parts", defArgs st_are_parts, defBody st_are_parts, defScope st_are_parts, [], []⟩
def dd_all_kept : He.DefD := ⟨("all_kept", none), "all_kept", "all_kept", defArgs st_all_kept, defBody st_all_kept, defScope st_all_kept, [], []⟩
def dd_parts_alive : He.DefD := ⟨("parts_alive", none), "parts_alive", "parts_alive", defArgs st_parts_alive, defBody st_parts_alive, defScope st_parts_alive, [], []⟩
def dd_parts_without : He.DefD := ⟨("parts_without", none), "parts_without", "parts_without", defArgs st_parts_without, defBody st_parts_without, defScope st_parts_without, [], []⟩
def dd_used_of : He.DefD := ⟨("used_of", none), "used_of", "used_of", defArgs st_used_of, defBody st_used_of, defScope st_used_of, [], []⟩
def dd_own_pool_year : He.DefD := ⟨("own_pool_year", none), "own_pool_year", "own_pool_year", defArgs st_own_pool_year, defBody st_own_pool_year, defScope st_own_pool_year, [], []⟩
def dd_pool_year : He.DefD := ⟨("pool_year", none), "pool_year", "pool_year", defArgs st_pool_year, defBody st_pool_year, defScope st_pool_year, [], []⟩
def dd__law_cell : He.DefD := ⟨("_law_cell", none), "_law_cell", "_law_cell", defArgs st__law_cell, defBody st__law_cell, defScope st__law_cell, [], []⟩
def dd__law_kept : He.DefD := ⟨("_law_kept", none), "_law_kept", "_law_kept", defArgs st__law_kept, defBody st__law_kept, defScope st__law_kept, [], []⟩
def dd__law_due : He.DefD := ⟨("_law_due", none), "_law_due", "_law_due", defArgs st__law_due, defBody st__law_due, defScope st__law_due, [], []⟩
def dd_law : He.DefD := ⟨("law", none), "law", "law", defArgs st_law, defBody st_law, defScope st_law, [], []⟩
def fnL : List He.DefD := [dd_is_whole, dd_is_from_to, dd_is_tuple_of, dd_is_pool_part, dd_are_parts, dd_all_kept, dd_parts_alive, dd_parts_without, dd_used_of, dd_own_pool_year, dd_pool_year, dd__law_cell, dd__law_kept, dd__law_due, dd_law]
def faL : List He.Fa := [.free "all", .free "bool", .free "int", .free "isinstance", .free "len", .free "max", .free "min", .free "range", .free "repr", .free "sum", .free "tuple", .free "zip", .int "MOST_LIFE" 20, .int "MOST_YEAR" 9999, .glo "is_whole", .glo "is_from_to", .glo "is_tuple_of", .glo "is_pool_part", .glo "are_parts", .glo "all_kept", .glo "parts_alive", .glo "parts_without", .glo "used_of", .glo "own_pool_year", .glo "pool_year", .glo "_law_cell", .glo "_law_kept", .glo "_law_due", .glo "law"]
theorem gd_of {K : PySem.W.Frag} {h : Heap} {mg : Str → Option Value} {w : World} (X : K.In h) (G : h.Ns mainGlobals mg) (c : He.SaysX faL fnL [] [] (fun _ => true) w h K) : Gd K mg where
  b_all := He.free_ok X G (c.t.d.fact 0 (f := .free "all") rfl)
  b_bool := He.free_ok X G (c.t.d.fact 1 (f := .free "bool") rfl)
  b_int := He.free_ok X G (c.t.d.fact 2 (f := .free "int") rfl)
  b_isinstance := He.free_ok X G (c.t.d.fact 3 (f := .free "isinstance") rfl)
  b_len := He.free_ok X G (c.t.d.fact 4 (f := .free "len") rfl)
  b_max := He.free_ok X G (c.t.d.fact 5 (f := .free "max") rfl)
  b_min := He.free_ok X G (c.t.d.fact 6 (f := .free "min") rfl)
  b_range := He.free_ok X G (c.t.d.fact 7 (f := .free "range") rfl)
  b_repr := He.free_ok X G (c.t.d.fact 8 (f := .free "repr") rfl)
  b_sum := He.free_ok X G (c.t.d.fact 9 (f := .free "sum") rfl)
  b_tuple := He.free_ok X G (c.t.d.fact 10 (f := .free "tuple") rfl)
  b_zip := He.free_ok X G (c.t.d.fact 11 (f := .free "zip") rfl)
  c_MOST_LIFE := He.int_ok X G (c.t.d.fact 12 (f := .int "MOST_LIFE" 20) rfl)
  c_MOST_YEAR := He.int_ok X G (c.t.d.fact 13 (f := .int "MOST_YEAR" 9999) rfl)
  f_is_whole := He.glo_ok X G (c.t.d.fact 14 (f := .glo "is_whole") rfl)
  d_is_whole := c.t.d.def_ 0 (d := dd_is_whole) rfl
  f_is_from_to := He.glo_ok X G (c.t.d.fact 15 (f := .glo "is_from_to") rfl)
  d_is_from_to := c.t.d.def_ 1 (d := dd_is_from_to) rfl
  f_is_tuple_of := He.glo_ok X G (c.t.d.fact 16 (f := .glo "is_tuple_of") rfl)
  d_is_tuple_of := c.t.d.def_ 2 (d := dd_is_tuple_of) rfl
  f_is_pool_part := He.glo_ok X G (c.t.d.fact 17 (f := .glo "is_pool_part") rfl)
  d_is_pool_part := c.t.d.def_ 3 (d := dd_is_pool_part) rfl
  f_are_parts := He.glo_ok X G (c.t.d.fact 18 (f := .glo "are_parts") rfl)
  d_are_parts := c.t.d.def_ 4 (d := dd_are_parts) rfl
  f_all_kept := He.glo_ok X G (c.t.d.fact 19 (f := .glo "all_kept") rfl)
  d_all_kept := c.t.d.def_ 5 (d := dd_all_kept) rfl
  f_parts_alive := He.glo_ok X G (c.t.d.fact 20 (f := .glo "parts_alive") rfl)
  d_parts_alive := c.t.d.def_ 6 (d := dd_parts_alive) rfl
  f_parts_without := He.glo_ok X G (c.t.d.fact 21 (f := .glo "parts_without") rfl)
  d_parts_without := c.t.d.def_ 7 (d := dd_parts_without) rfl
  f_used_of := He.glo_ok X G (c.t.d.fact 22 (f := .glo "used_of") rfl)
  d_used_of := c.t.d.def_ 8 (d := dd_used_of) rfl
  f_own_pool_year := He.glo_ok X G (c.t.d.fact 23 (f := .glo "own_pool_year") rfl)
  d_own_pool_year := c.t.d.def_ 9 (d := dd_own_pool_year) rfl
  f_pool_year := He.glo_ok X G (c.t.d.fact 24 (f := .glo "pool_year") rfl)
  d_pool_year := c.t.d.def_ 10 (d := dd_pool_year) rfl
  f__law_cell := He.glo_ok X G (c.t.d.fact 25 (f := .glo "_law_cell") rfl)
  d__law_cell := c.t.d.def_ 11 (d := dd__law_cell) rfl
  f__law_kept := He.glo_ok X G (c.t.d.fact 26 (f := .glo "_law_kept") rfl)
  d__law_kept := c.t.d.def_ 12 (d := dd__law_kept) rfl
  f__law_due := He.glo_ok X G (c.t.d.fact 27 (f := .glo "_law_due") rfl)
  d__law_due := c.t.d.def_ 13 (d := dd__law_due) rfl
  f_law := He.glo_ok X G (c.t.d.fact 28 (f := .glo "law") rfl)
  d_law := c.t.d.def_ 14 (d := dd_law) rfl
def loose : List PySem.Str := ["LevyError", "BadAmount", "is_whole", "is_from_to", "is_tuple_of", "MOST_YEAR", "MOST_LIFE", "is_pool_part", "are_parts", "all_kept", "parts_alive", "parts_without", "used_of", "own_pool_year", "pool_year", "_law_cell", "_law_kept", "_law_due"]
abbrev R : PySem.W.OpenRow := PySem.W.OpenLaw.row PySem.Challenge.rw_leviesbook_k19_pools_year_by_year
abbrev hk : PySem.W.Hook := hookM 4 faL fnL [] (fun _ => true)
def ob (s : PySem.W.SharedT) : He.AlX × Bool := obsM 4 faL fnL [] (fun _ => true) (HandSHeadRun.getT s)
theorem ob_eq (s : PySem.W.SharedT) : ob s = hk.obs s.abs := obsM_eq (HandSHeadRun.getT_eq s)
theorem run (w : World) : HandSHeadRun.RunEq R (PySem.W.view R.prog [22]) hk ob 4000 loose w := by
  intro os
  kernel_rfl
end Gk19
namespace Gk19
open PySem PySem.W PySem.Calls PyProof.Rows
theorem law_from (plain : ∀ ns : List Int, ns.length ≤ 63 → (∀ z ∈ ns, Builtin.Int.intBits z ≤ 1048576) → ∃ ds, Gk19.mf_law [.scr ns] = .ok (.bl true) ds) : PySem.Challenge.rw_leviesbook_k19_pools_year_by_year.Holds := by
  w_on; o_law
  refine HandSHeadRun.head_any (r := OpenLaw.row PySem.Challenge.rw_leviesbook_k19_pools_year_by_year) (q := view (OpenLaw.row PySem.Challenge.rw_leviesbook_k19_pools_year_by_year).prog [22]) (H := Gk19.hk) (ob := Gk19.ob) (M := 4000) (loose := Gk19.loose) (d := HandSHeadRun.topDef (OpenLaw.row PySem.Challenge.rw_leviesbook_k19_pools_year_by_year).prog 22) (kwd := []) Gk19.ob_eq
    (by kernel_rfl) (fun s => by kernel_rfl) Gk19.run (by kernel_rfl) (by kernel_rfl) (by kernel_rfl) (by rfl) (by first | assumption | decide +kernel) (by decide +kernel) ⟨rfl, rfl, rfl, rfl, rfl, by decide +kernel⟩ ?hw ?hc
  case hw => w_witness2
  case hc =>
    refine DM.law_holds (l := PySem.Challenge.rw_leviesbook_k19_pools_year_by_year) (n := 63) (k := 6) (x := "_law_script") rfl (by decide) (by kernel_rfl) ⟨rfl, by decide, by decide⟩ Gk19.mf_law ?F plain
    intro w mg fa h Y G hmg0
    obtain ⟨K, KX, c, hsys⟩ := Y
    have hmg : mg ("law" : PySem.Str) = some (.ref fa) := by
      have e : (HandSHeadRun.topDef (OpenLaw.row PySem.Challenge.rw_leviesbook_k19_pools_year_by_year).prog 22).name = ("law" : PySem.Str) := by kernel_rfl
      rw [← e]
      exact hmg0
    have gd := Gk19.gd_of KX G c
    have e := hmg.symm.trans gd.f_law
    cases e
    obtain ⟨fd, F⟩ := gd.d_law
    refine ⟨K, fd, KX, hsys, fun s u => L2.FunD.bindsA (ps := ["_law_script"]) F (fun _ _ _ _ _ _ us hl => match us, hl with | [_], _ => rfl) s [u] rfl, fun base hK hN hS => ?_⟩
    exact (Gk19.ok_law (P := (PySem.Challenge.rw_leviesbook_k19_pools_year_by_year).prog) (w := w) gd hS F).2
end Gk19
/-! DmP: mirrors are run: rows for simp, each at a state. -/
namespace DM
open PySem PySem.Spec PyProof.Rows L2
abbrev OEnv := List (Option D)
/-- only what is next is looked at -/
def Out.seq (o : Out Ctl) (n : Ms) : Out Ctl := match o with
  | .ok .nx ρ1 => n ρ1
  | o => o
@[simp] theorem Out.seq_nx (ρ : OEnv) (n : Ms) : (Out.ok .nx ρ : Out Ctl).seq n = n ρ := rfl
@[simp] theorem Out.seq_bk (ρ : OEnv) (n : Ms) : (Out.ok .bk ρ : Out Ctl).seq n = .ok .bk ρ := rfl
@[simp] theorem Out.seq_ct (ρ : OEnv) (n : Ms) : (Out.ok .ct ρ : Out Ctl).seq n = .ok .ct ρ := rfl
@[simp] theorem Out.seq_rt (d : D) (ρ : OEnv) (n : Ms) : (Out.ok (.rt d) ρ : Out Ctl).seq n = .ok (.rt d) ρ := rfl
@[simp] theorem Out.seq_exc (x : Xn) (ρ : OEnv) (n : Ms) : (Out.exc x ρ : Out Ctl).seq n = .exc x ρ := rfl
@[simp] theorem Out.seq_bad (n : Ms) : (Out.bad : Out Ctl).seq n = .bad := rfl
/-- what a call tells, at the caller's state -/
def FO.at_ (o : FO) (ρ : OEnv) : Out D := match o with
  | .ok d _ => .ok d ρ
  | .exc x _ => .exc x ρ
  | .bad => .bad
@[simp] theorem FO.at_ok (d : D) (ds : List D) (ρ : OEnv) : (FO.ok d ds).at_ ρ = .ok d ρ := rfl
@[simp] theorem FO.at_exc (x : Xn) (ds : List D) (ρ : OEnv) : (FO.exc x ds).at_ ρ = .exc x ρ := rfl
@[simp] theorem FO.at_bad (ρ : OEnv) : FO.bad.at_ ρ = .bad := rfl
def FO.back (o : FO) (xs : List Ag) (ρ : OEnv) : Out D := match o with
  | .ok d ds => (match putBack xs ds ρ with | some ρ' => .ok d ρ' | none => .bad)
  | .exc x ds => (match putBack xs ds ρ with | some ρ' => .exc x ρ' | none => .bad)
  | .bad => .bad
@[simp] theorem FO.back_ok (d : D) (ds : List D) (xs : List Ag) (ρ : OEnv) : (FO.ok d ds).back xs ρ = (match putBack xs ds ρ with | some ρ' => .ok d ρ' | none => .bad) := rfl
@[simp] theorem FO.back_exc (x : Xn) (ds : List D) (xs : List Ag) (ρ : OEnv) : (FO.exc x ds).back xs ρ = (match putBack xs ds ρ with | some ρ' => .exc x ρ' | none => .bad) := rfl
def Out.fo (o : Out Ctl) (sh : List Sh) (sr : Sh) (ds : List D) : FO := match o with
  | .ok .nx ρ => if isFz sr then (match fin sh ds ρ with | some ds' => .ok .non ds' | none => .bad) else .bad
  | .ok (.rt d) ρ => (match fin sh ds ρ with | some ds' => .ok d ds' | none => .bad)
  | .exc x ρ => (match fin sh ds ρ with | some ds' => .exc x ds' | none => .bad)
  | _ => .bad
@[simp] theorem Out.fo_rt (d : D) (ρ : OEnv) (sh : List Sh) (sr : Sh) (ds : List D) : (Out.ok (.rt d) ρ : Out Ctl).fo sh sr ds = (match fin sh ds ρ with | some ds' => .ok d ds' | none => .bad) := rfl
@[simp] theorem Out.fo_nx (ρ : OEnv) (sh : List Sh) (ds : List D) : (Out.ok .nx ρ : Out Ctl).fo sh .fz ds = (match fin sh ds ρ with | some ds' => .ok .non ds' | none => .bad) := rfl
@[simp] theorem Out.fo_exc (x : Xn) (ρ : OEnv) (sh : List Sh) (sr : Sh) (ds : List D) : (Out.exc x ρ : Out Ctl).fo sh sr ds = (match fin sh ds ρ with | some ds' => .exc x ds' | none => .bad) := rfl
/-- one turn of a loop, then the rest -/
def Out.turn (o : Out Ctl) (k : Ms) : Out Ctl := match o with
  | .ok .nx ρ2 => k ρ2
  | .ok .ct ρ2 => k ρ2
  | .ok .bk ρ2 => .ok .nx ρ2
  | .ok (.rt d) ρ2 => .ok (.rt d) ρ2
  | .exc x ρ2 => .exc x ρ2
  | .bad => .bad
@[simp] theorem Out.turn_nx (ρ : OEnv) (n : Ms) : (Out.ok .nx ρ : Out Ctl).turn n = n ρ := rfl
@[simp] theorem Out.turn_ct (ρ : OEnv) (n : Ms) : (Out.ok .ct ρ : Out Ctl).turn n = n ρ := rfl
@[simp] theorem Out.turn_bk (ρ : OEnv) (n : Ms) : (Out.ok .bk ρ : Out Ctl).turn n = .ok .nx ρ := rfl
@[simp] theorem Out.turn_rt (d : D) (ρ : OEnv) (n : Ms) : (Out.ok (.rt d) ρ : Out Ctl).turn n = .ok (.rt d) ρ := rfl
@[simp] theorem Out.turn_exc (x : Xn) (ρ : OEnv) (n : Ms) : (Out.exc x ρ : Out Ctl).turn n = .exc x ρ := rfl
def toO {α : Type} (o : Option α) (ρ : OEnv) : Out α := lift o ρ
@[simp] theorem toO_some {α : Type} (a : α) (ρ : OEnv) : toO (some a) ρ = .ok a ρ := rfl
@[simp] theorem toO_none {α : Type} (ρ : OEnv) : toO (none : Option α) ρ = .bad := rfl
def toN (o : Option OEnv) : Out Ctl := match o with
  | some ρ => .ok .nx ρ
  | none => .bad
@[simp] theorem toN_some (ρ : OEnv) : toN (some ρ) = .ok .nx ρ := rfl
/-- one state behind another -/
theorem bind_ext {α β : Type} {o : Out α} {k k' : α → OEnv → Out β} (h : ∀ x s, k x s = k' x s) : o.bind k = o.bind k' := by
  cases o <;> first | rfl | exact h _ _
theorem run_def1 {α : Type} {m m' : Mi α} {r : OEnv} (h : m = m') : m r = m' r := by rw [h]
def getV (o : Option (Option D)) (ρ : OEnv) : Out D := match o with
  | some (some d) => .ok d ρ
  | _ => .bad
@[simp] theorem getV_some (d : D) (ρ : OEnv) : getV (some (some d)) ρ = .ok d ρ := rfl
@[simp] theorem eVar_app (i : Nat) (ρ : OEnv) : eVar i ρ = getV ρ[i]? ρ := by
  unfold eVar getV
  split <;> simp_all
section
variable (ρ : OEnv)
@[simp] theorem bnd_app {α β : Type} (m : Mi α) (k : α → Mi β) : bnd m k ρ = (m ρ).bind k := rfl
@[simp] theorem ret_app {α : Type} (a : α) : ret a ρ = .ok a ρ := rfl
@[simp] theorem lift_app {α : Type} (o : Option α) : lift o ρ = toO o ρ := rfl
@[simp] theorem eK_app (d : D) : eK d ρ = .ok d ρ := rfl
@[simp] theorem aNil_app : aNil ρ = .ok [] ρ := rfl
@[simp] theorem oNone_app : oNone ρ = .ok none ρ := rfl
@[simp] theorem tYesM_app : tYesM ρ = .ok true ρ := rfl
@[simp] theorem eDnew_app : eDnew ρ = .ok (.dct []) ρ := rfl
end
theorem lift_ap {α : Type} (o : Option α) : lift o = toO o := by
  funext ρ
  cases o <;> rfl
def eOp_k2 (f : D → D → Option D) (x : D) (y : D) : Mi (D) := fun r => toO (f x y) r
@[simp] theorem eOp_k2_app (f : D → D → Option D) (x : D) (y : D) (r : OEnv) : eOp_k2 f x y r = toO (f x y) r := rfl
def eOp_k1 (f : D → D → Option D) (mb : Mi D) (x : D) : Mi (D) := bnd (mb) (eOp_k2 f x)
@[simp] theorem eOp_k1_app (f : D → D → Option D) (mb : Mi D) (x : D) (r : OEnv) : eOp_k1 f mb x r = (mb r).bind (eOp_k2 f x) := rfl
theorem eOp_def (f : D → D → Option D) (ma : Mi D) (mb : Mi D) : eOp f ma mb = bnd (ma) (eOp_k1 f mb) := by
  funext r
  first | rfl | (unfold eOp bnd; refine bind_ext fun x s => ?_; first | rfl | (cases x <;> rfl) | (refine bind_ext fun y s => ?_; first | rfl | (cases y <;> rfl) | (refine bind_ext fun z s => ?_; first | rfl | (cases z <;> rfl))))
@[simp] theorem eOp_app (f : D → D → Option D) (ma : Mi D) (mb : Mi D) (r : OEnv) : eOp f ma mb r = (ma r).bind (eOp_k1 f mb) := by rw [eOp_def]; rfl
def eCmp_k2 (f : D → D → Option Bool) (x : D) (y : D) : Mi (D) := fun r => toO ((f x y).map D.bl) r
@[simp] theorem eCmp_k2_app (f : D → D → Option Bool) (x : D) (y : D) (r : OEnv) : eCmp_k2 f x y r = toO ((f x y).map D.bl) r := rfl
def eCmp_k1 (f : D → D → Option Bool) (mb : Mi D) (x : D) : Mi (D) := bnd (mb) (eCmp_k2 f x)
@[simp] theorem eCmp_k1_app (f : D → D → Option Bool) (mb : Mi D) (x : D) (r : OEnv) : eCmp_k1 f mb x r = (mb r).bind (eCmp_k2 f x) := rfl
theorem eCmp_def (f : D → D → Option Bool) (ma : Mi D) (mb : Mi D) : eCmp f ma mb = bnd (ma) (eCmp_k1 f mb) := by
  funext r
  first | rfl | (unfold eCmp bnd; refine bind_ext fun x s => ?_; first | rfl | (cases x <;> rfl) | (refine bind_ext fun y s => ?_; first | rfl | (cases y <;> rfl) | (refine bind_ext fun z s => ?_; first | rfl | (cases z <;> rfl))))
@[simp] theorem eCmp_app (f : D → D → Option Bool) (ma : Mi D) (mb : Mi D) (r : OEnv) : eCmp f ma mb r = (ma r).bind (eCmp_k1 f mb) := by rw [eCmp_def]; rfl
def tCp_k2 (f : D → D → Option Bool) (x : D) (y : D) : Mi (Bool) := fun r => toO (f x y) r
@[simp] theorem tCp_k2_app (f : D → D → Option Bool) (x : D) (y : D) (r : OEnv) : tCp_k2 f x y r = toO (f x y) r := rfl
def tCp_k1 (f : D → D → Option Bool) (mb : Mi D) (x : D) : Mi (Bool) := bnd (mb) (tCp_k2 f x)
@[simp] theorem tCp_k1_app (f : D → D → Option Bool) (mb : Mi D) (x : D) (r : OEnv) : tCp_k1 f mb x r = (mb r).bind (tCp_k2 f x) := rfl
theorem tCp_def (f : D → D → Option Bool) (ma : Mi D) (mb : Mi D) : tCp f ma mb = bnd (ma) (tCp_k1 f mb) := by
  funext r
  first | rfl | (unfold tCp bnd; refine bind_ext fun x s => ?_; first | rfl | (cases x <;> rfl) | (refine bind_ext fun y s => ?_; first | rfl | (cases y <;> rfl) | (refine bind_ext fun z s => ?_; first | rfl | (cases z <;> rfl))))
@[simp] theorem tCp_app (f : D → D → Option Bool) (ma : Mi D) (mb : Mi D) (r : OEnv) : tCp f ma mb r = (ma r).bind (tCp_k1 f mb) := by rw [tCp_def]; rfl
def eChain_k3 (g : D → D → Option Bool) (mc : Mi D) (y : D) (k : Bool) : Mi (D) := fun r => if k = true then bnd mc (fun z => lift ((g y z).map D.bl)) r else .ok (D.bl false) r
@[simp] theorem eChain_k3_app (g : D → D → Option Bool) (mc : Mi D) (y : D) (k : Bool) (r : OEnv) : eChain_k3 g mc y k r = if k = true then bnd mc (fun z => lift ((g y z).map D.bl)) r else .ok (D.bl false) r := rfl
def eChain_k2 (f : D → D → Option Bool) (g : D → D → Option Bool) (mc : Mi D) (x : D) (y : D) : Mi (D) := bnd (lift (f x y)) (eChain_k3 g mc y)
@[simp] theorem eChain_k2_app (f : D → D → Option Bool) (g : D → D → Option Bool) (mc : Mi D) (x : D) (y : D) (r : OEnv) : eChain_k2 f g mc x y r = ((lift (f x y)) r).bind (eChain_k3 g mc y) := rfl
def eChain_k1 (f : D → D → Option Bool) (g : D → D → Option Bool) (mb : Mi D) (mc : Mi D) (x : D) : Mi (D) := bnd (mb) (eChain_k2 f g mc x)
@[simp] theorem eChain_k1_app (f : D → D → Option Bool) (g : D → D → Option Bool) (mb : Mi D) (mc : Mi D) (x : D) (r : OEnv) : eChain_k1 f g mb mc x r = (mb r).bind (eChain_k2 f g mc x) := rfl
theorem eChain_def (f : D → D → Option Bool) (g : D → D → Option Bool) (ma : Mi D) (mb : Mi D) (mc : Mi D) : eChain f g ma mb mc = bnd (ma) (eChain_k1 f g mb mc) := by
  funext r
  first | rfl | (unfold eChain bnd; refine bind_ext fun x s => ?_; first | rfl | (cases x <;> rfl) | (refine bind_ext fun y s => ?_; first | rfl | (cases y <;> rfl) | (refine bind_ext fun z s => ?_; first | rfl | (cases z <;> rfl))))
@[simp] theorem eChain_app (f : D → D → Option Bool) (g : D → D → Option Bool) (ma : Mi D) (mb : Mi D) (mc : Mi D) (r : OEnv) : eChain f g ma mb mc r = (ma r).bind (eChain_k1 f g mb mc) := by rw [eChain_def]; rfl
def tChn_k3 (g : D → D → Option Bool) (mc : Mi D) (y : D) (k : Bool) : Mi (Bool) := fun r => if k = true then bnd mc (fun z => lift (g y z)) r else .ok false r
@[simp] theorem tChn_k3_app (g : D → D → Option Bool) (mc : Mi D) (y : D) (k : Bool) (r : OEnv) : tChn_k3 g mc y k r = if k = true then bnd mc (fun z => lift (g y z)) r else .ok false r := rfl
def tChn_k2 (f : D → D → Option Bool) (g : D → D → Option Bool) (mc : Mi D) (x : D) (y : D) : Mi (Bool) := bnd (lift (f x y)) (tChn_k3 g mc y)
@[simp] theorem tChn_k2_app (f : D → D → Option Bool) (g : D → D → Option Bool) (mc : Mi D) (x : D) (y : D) (r : OEnv) : tChn_k2 f g mc x y r = ((lift (f x y)) r).bind (tChn_k3 g mc y) := rfl
def tChn_k1 (f : D → D → Option Bool) (g : D → D → Option Bool) (mb : Mi D) (mc : Mi D) (x : D) : Mi (Bool) := bnd (mb) (tChn_k2 f g mc x)
@[simp] theorem tChn_k1_app (f : D → D → Option Bool) (g : D → D → Option Bool) (mb : Mi D) (mc : Mi D) (x : D) (r : OEnv) : tChn_k1 f g mb mc x r = (mb r).bind (tChn_k2 f g mc x) := rfl
theorem tChn_def (f : D → D → Option Bool) (g : D → D → Option Bool) (ma : Mi D) (mb : Mi D) (mc : Mi D) : tChn f g ma mb mc = bnd (ma) (tChn_k1 f g mb mc) := by
  funext r
  first | rfl | (unfold tChn bnd; refine bind_ext fun x s => ?_; first | rfl | (cases x <;> rfl) | (refine bind_ext fun y s => ?_; first | rfl | (cases y <;> rfl) | (refine bind_ext fun z s => ?_; first | rfl | (cases z <;> rfl))))
@[simp] theorem tChn_app (f : D → D → Option Bool) (g : D → D → Option Bool) (ma : Mi D) (mb : Mi D) (mc : Mi D) (r : OEnv) : tChn f g ma mb mc r = (ma r).bind (tChn_k1 f g mb mc) := by rw [tChn_def]; rfl
def aCons_k2 (x : D) (xs : List D) : Mi (List D) := fun r => .ok (x :: xs) r
@[simp] theorem aCons_k2_app (x : D) (xs : List D) (r : OEnv) : aCons_k2 x xs r = .ok (x :: xs) r := rfl
def aCons_k1 (ms : Mi (List D)) (x : D) : Mi (List D) := bnd (ms) (aCons_k2 x)
@[simp] theorem aCons_k1_app (ms : Mi (List D)) (x : D) (r : OEnv) : aCons_k1 ms x r = (ms r).bind (aCons_k2 x) := rfl
theorem aCons_def (m : Mi D) (ms : Mi (List D)) : aCons m ms = bnd (m) (aCons_k1 ms) := by
  funext r
  first | rfl | (unfold aCons bnd; refine bind_ext fun x s => ?_; first | rfl | (cases x <;> rfl) | (refine bind_ext fun y s => ?_; first | rfl | (cases y <;> rfl) | (refine bind_ext fun z s => ?_; first | rfl | (cases z <;> rfl))))
@[simp] theorem aCons_app (m : Mi D) (ms : Mi (List D)) (r : OEnv) : aCons m ms r = (m r).bind (aCons_k1 ms) := by rw [aCons_def]; rfl
def eTup_k1  (ds : List D) : Mi (D) := fun r => toO (if ds.length ≤ 16777216 then some (D.tup ds) else none) r
@[simp] theorem eTup_k1_app  (ds : List D) (r : OEnv) : eTup_k1  ds r = toO (if ds.length ≤ 16777216 then some (D.tup ds) else none) r := rfl
theorem eTup_def (m : Mi (List D)) : eTup m = bnd (m) eTup_k1 := by
  funext r
  first | rfl | (unfold eTup bnd; refine bind_ext fun x s => ?_; first | rfl | (cases x <;> rfl) | (refine bind_ext fun y s => ?_; first | rfl | (cases y <;> rfl) | (refine bind_ext fun z s => ?_; first | rfl | (cases z <;> rfl))))
@[simp] theorem eTup_app (m : Mi (List D)) (r : OEnv) : eTup m r = (m r).bind eTup_k1 := by rw [eTup_def]; rfl
def eLst_k1  (ds : List D) : Mi (D) := fun r => toO (if ds.length ≤ 16777216 then some (D.lst ds) else none) r
@[simp] theorem eLst_k1_app  (ds : List D) (r : OEnv) : eLst_k1  ds r = toO (if ds.length ≤ 16777216 then some (D.lst ds) else none) r := rfl
theorem eLst_def (m : Mi (List D)) : eLst m = bnd (m) eLst_k1 := by
  funext r
  first | rfl | (unfold eLst bnd; refine bind_ext fun x s => ?_; first | rfl | (cases x <;> rfl) | (refine bind_ext fun y s => ?_; first | rfl | (cases y <;> rfl) | (refine bind_ext fun z s => ?_; first | rfl | (cases z <;> rfl))))
@[simp] theorem eLst_app (m : Mi (List D)) (r : OEnv) : eLst m r = (m r).bind eLst_k1 := by rw [eLst_def]; rfl
def eIx_k2 (x : D) (y : D) : Mi (D) := fun r => toO (ixD x y) r
@[simp] theorem eIx_k2_app (x : D) (y : D) (r : OEnv) : eIx_k2 x y r = toO (ixD x y) r := rfl
def eIx_k1 (mb : Mi D) (x : D) : Mi (D) := bnd (mb) (eIx_k2 x)
@[simp] theorem eIx_k1_app (mb : Mi D) (x : D) (r : OEnv) : eIx_k1 mb x r = (mb r).bind (eIx_k2 x) := rfl
theorem eIx_def (ma : Mi D) (mb : Mi D) : eIx ma mb = bnd (ma) (eIx_k1 mb) := by
  funext r
  first | rfl | (unfold eIx bnd; refine bind_ext fun x s => ?_; first | rfl | (cases x <;> rfl) | (refine bind_ext fun y s => ?_; first | rfl | (cases y <;> rfl) | (refine bind_ext fun z s => ?_; first | rfl | (cases z <;> rfl))))
@[simp] theorem eIx_app (ma : Mi D) (mb : Mi D) (r : OEnv) : eIx ma mb r = (ma r).bind (eIx_k1 mb) := by rw [eIx_def]; rfl
def oSome_k1  (x : D) : Mi (Option Int) := fun r => toO ((asI x).map some) r
@[simp] theorem oSome_k1_app  (x : D) (r : OEnv) : oSome_k1  x r = toO ((asI x).map some) r := rfl
theorem oSome_def (m : Mi D) : oSome m = bnd (m) oSome_k1 := by
  funext r
  first | rfl | (unfold oSome bnd; refine bind_ext fun x s => ?_; first | rfl | (cases x <;> rfl) | (refine bind_ext fun y s => ?_; first | rfl | (cases y <;> rfl) | (refine bind_ext fun z s => ?_; first | rfl | (cases z <;> rfl))))
@[simp] theorem oSome_app (m : Mi D) (r : OEnv) : oSome m r = (m r).bind oSome_k1 := by rw [oSome_def]; rfl
def eSl_k3 (f : D → Option Int → Option Int → Option D) (x : D) (lo : Option Int) (hi : Option Int) : Mi (D) := fun r => toO (f x lo hi) r
@[simp] theorem eSl_k3_app (f : D → Option Int → Option Int → Option D) (x : D) (lo : Option Int) (hi : Option Int) (r : OEnv) : eSl_k3 f x lo hi r = toO (f x lo hi) r := rfl
def eSl_k2 (f : D → Option Int → Option Int → Option D) (mh : Mi (Option Int)) (x : D) (lo : Option Int) : Mi (D) := bnd (mh) (eSl_k3 f x lo)
@[simp] theorem eSl_k2_app (f : D → Option Int → Option Int → Option D) (mh : Mi (Option Int)) (x : D) (lo : Option Int) (r : OEnv) : eSl_k2 f mh x lo r = (mh r).bind (eSl_k3 f x lo) := rfl
def eSl_k1 (f : D → Option Int → Option Int → Option D) (ml : Mi (Option Int)) (mh : Mi (Option Int)) (x : D) : Mi (D) := bnd (ml) (eSl_k2 f mh x)
@[simp] theorem eSl_k1_app (f : D → Option Int → Option Int → Option D) (ml : Mi (Option Int)) (mh : Mi (Option Int)) (x : D) (r : OEnv) : eSl_k1 f ml mh x r = (ml r).bind (eSl_k2 f mh x) := rfl
theorem eSl_def (f : D → Option Int → Option Int → Option D) (ma : Mi D) (ml : Mi (Option Int)) (mh : Mi (Option Int)) : eSl f ma ml mh = bnd (ma) (eSl_k1 f ml mh) := by
  funext r
  first | rfl | (unfold eSl bnd; refine bind_ext fun x s => ?_; first | rfl | (cases x <;> rfl) | (refine bind_ext fun y s => ?_; first | rfl | (cases y <;> rfl) | (refine bind_ext fun z s => ?_; first | rfl | (cases z <;> rfl))))
@[simp] theorem eSl_app (f : D → Option Int → Option Int → Option D) (ma : Mi D) (ml : Mi (Option Int)) (mh : Mi (Option Int)) (r : OEnv) : eSl f ma ml mh r = (ma r).bind (eSl_k1 f ml mh) := by rw [eSl_def]; rfl
def tVal_k1  (x : D) : Mi (Bool) := fun r => toO (asB x) r
@[simp] theorem tVal_k1_app  (x : D) (r : OEnv) : tVal_k1  x r = toO (asB x) r := rfl
theorem tVal_def (m : Mi D) : tVal m = bnd (m) tVal_k1 := by
  funext r
  first | rfl | (unfold tVal bnd; refine bind_ext fun x s => ?_; first | rfl | (cases x <;> rfl) | (refine bind_ext fun y s => ?_; first | rfl | (cases y <;> rfl) | (refine bind_ext fun z s => ?_; first | rfl | (cases z <;> rfl))))
@[simp] theorem tVal_app (m : Mi D) (r : OEnv) : tVal m r = (m r).bind tVal_k1 := by rw [tVal_def]; rfl
def tNotM_k1  (k : Bool) : Mi (Bool) := fun r => .ok (!k) r
@[simp] theorem tNotM_k1_app  (k : Bool) (r : OEnv) : tNotM_k1  k r = .ok (!k) r := rfl
theorem tNotM_def (m : Mi Bool) : tNotM m = bnd (m) tNotM_k1 := by
  funext r
  first | rfl | (unfold tNotM bnd; refine bind_ext fun x s => ?_; first | rfl | (cases x <;> rfl) | (refine bind_ext fun y s => ?_; first | rfl | (cases y <;> rfl) | (refine bind_ext fun z s => ?_; first | rfl | (cases z <;> rfl))))
@[simp] theorem tNotM_app (m : Mi Bool) (r : OEnv) : tNotM m r = (m r).bind tNotM_k1 := by rw [tNotM_def]; rfl
def tAndM_k1 (n : Mi Bool) (k : Bool) : Mi (Bool) := fun r => if k = true then n r else .ok false r
@[simp] theorem tAndM_k1_app (n : Mi Bool) (k : Bool) (r : OEnv) : tAndM_k1 n k r = if k = true then n r else .ok false r := rfl
theorem tAndM_def (m : Mi Bool) (n : Mi Bool) : tAndM m n = bnd (m) (tAndM_k1 n) := by
  funext r
  first | rfl | (unfold tAndM bnd; refine bind_ext fun x s => ?_; first | rfl | (cases x <;> rfl) | (refine bind_ext fun y s => ?_; first | rfl | (cases y <;> rfl) | (refine bind_ext fun z s => ?_; first | rfl | (cases z <;> rfl))))
@[simp] theorem tAndM_app (m : Mi Bool) (n : Mi Bool) (r : OEnv) : tAndM m n r = (m r).bind (tAndM_k1 n) := by rw [tAndM_def]; rfl
def tOrM_k1 (n : Mi Bool) (k : Bool) : Mi (Bool) := fun r => if k = true then .ok true r else n r
@[simp] theorem tOrM_k1_app (n : Mi Bool) (k : Bool) (r : OEnv) : tOrM_k1 n k r = if k = true then .ok true r else n r := rfl
theorem tOrM_def (m : Mi Bool) (n : Mi Bool) : tOrM m n = bnd (m) (tOrM_k1 n) := by
  funext r
  first | rfl | (unfold tOrM bnd; refine bind_ext fun x s => ?_; first | rfl | (cases x <;> rfl) | (refine bind_ext fun y s => ?_; first | rfl | (cases y <;> rfl) | (refine bind_ext fun z s => ?_; first | rfl | (cases z <;> rfl))))
@[simp] theorem tOrM_app (m : Mi Bool) (n : Mi Bool) (r : OEnv) : tOrM m n r = (m r).bind (tOrM_k1 n) := by rw [tOrM_def]; rfl
def eAnd_k2 (n : Mi D) (k : Bool) : Mi (D) := fun r => if k = true then n r else .ok (.bl false) r
@[simp] theorem eAnd_k2_app (n : Mi D) (k : Bool) (r : OEnv) : eAnd_k2 n k r = if k = true then n r else .ok (.bl false) r := rfl
def eAnd_k1 (n : Mi D) (x : D) : Mi (D) := bnd (lift (asB x)) (eAnd_k2 n)
@[simp] theorem eAnd_k1_app (n : Mi D) (x : D) (r : OEnv) : eAnd_k1 n x r = ((lift (asB x)) r).bind (eAnd_k2 n) := rfl
theorem eAnd_def (m : Mi D) (n : Mi D) : eAnd m n = bnd (m) (eAnd_k1 n) := by
  funext r
  first | rfl | (unfold eAnd bnd; refine bind_ext fun x s => ?_; first | rfl | (cases x <;> rfl) | (refine bind_ext fun y s => ?_; first | rfl | (cases y <;> rfl) | (refine bind_ext fun z s => ?_; first | rfl | (cases z <;> rfl))))
@[simp] theorem eAnd_app (m : Mi D) (n : Mi D) (r : OEnv) : eAnd m n r = (m r).bind (eAnd_k1 n) := by rw [eAnd_def]; rfl
def eOr_k2 (n : Mi D) (k : Bool) : Mi (D) := fun r => if k = true then .ok (.bl true) r else n r
@[simp] theorem eOr_k2_app (n : Mi D) (k : Bool) (r : OEnv) : eOr_k2 n k r = if k = true then .ok (.bl true) r else n r := rfl
def eOr_k1 (n : Mi D) (x : D) : Mi (D) := bnd (lift (asB x)) (eOr_k2 n)
@[simp] theorem eOr_k1_app (n : Mi D) (x : D) (r : OEnv) : eOr_k1 n x r = ((lift (asB x)) r).bind (eOr_k2 n) := rfl
theorem eOr_def (m : Mi D) (n : Mi D) : eOr m n = bnd (m) (eOr_k1 n) := by
  funext r
  first | rfl | (unfold eOr bnd; refine bind_ext fun x s => ?_; first | rfl | (cases x <;> rfl) | (refine bind_ext fun y s => ?_; first | rfl | (cases y <;> rfl) | (refine bind_ext fun z s => ?_; first | rfl | (cases z <;> rfl))))
@[simp] theorem eOr_app (m : Mi D) (n : Mi D) (r : OEnv) : eOr m n r = (m r).bind (eOr_k1 n) := by rw [eOr_def]; rfl
def eNot_k2  (k : Bool) : Mi (D) := fun r => .ok (.bl (!k)) r
@[simp] theorem eNot_k2_app  (k : Bool) (r : OEnv) : eNot_k2  k r = .ok (.bl (!k)) r := rfl
def eNot_k1  (x : D) : Mi (D) := bnd (lift (asB x)) eNot_k2
@[simp] theorem eNot_k1_app  (x : D) (r : OEnv) : eNot_k1  x r = ((lift (asB x)) r).bind eNot_k2 := rfl
theorem eNot_def (m : Mi D) : eNot m = bnd (m) eNot_k1 := by
  funext r
  first | rfl | (unfold eNot bnd; refine bind_ext fun x s => ?_; first | rfl | (cases x <;> rfl) | (refine bind_ext fun y s => ?_; first | rfl | (cases y <;> rfl) | (refine bind_ext fun z s => ?_; first | rfl | (cases z <;> rfl))))
@[simp] theorem eNot_app (m : Mi D) (r : OEnv) : eNot m r = (m r).bind eNot_k1 := by rw [eNot_def]; rfl
def eIf_k1 (m : Mi D) (n : Mi D) (k : Bool) : Mi (D) := fun r => if k = true then m r else n r
@[simp] theorem eIf_k1_app (m : Mi D) (n : Mi D) (k : Bool) (r : OEnv) : eIf_k1 m n k r = if k = true then m r else n r := rfl
theorem eIf_def (c : Mi Bool) (m : Mi D) (n : Mi D) : eIf c m n = bnd (c) (eIf_k1 m n) := by
  funext r
  first | rfl | (unfold eIf bnd; refine bind_ext fun x s => ?_; first | rfl | (cases x <;> rfl) | (refine bind_ext fun y s => ?_; first | rfl | (cases y <;> rfl) | (refine bind_ext fun z s => ?_; first | rfl | (cases z <;> rfl))))
@[simp] theorem eIf_app (c : Mi Bool) (m : Mi D) (n : Mi D) (r : OEnv) : eIf c m n r = (c r).bind (eIf_k1 m n) := by rw [eIf_def]; rfl
def eUn_k1 (f : D → Option D) (x : D) : Mi (D) := fun r => toO (f x) r
@[simp] theorem eUn_k1_app (f : D → Option D) (x : D) (r : OEnv) : eUn_k1 f x r = toO (f x) r := rfl
theorem eUn_def (f : D → Option D) (m : Mi D) : eUn f m = bnd (m) (eUn_k1 f) := by
  funext r
  first | rfl | (unfold eUn bnd; refine bind_ext fun x s => ?_; first | rfl | (cases x <;> rfl) | (refine bind_ext fun y s => ?_; first | rfl | (cases y <;> rfl) | (refine bind_ext fun z s => ?_; first | rfl | (cases z <;> rfl))))
@[simp] theorem eUn_app (f : D → Option D) (m : Mi D) (r : OEnv) : eUn f m r = (m r).bind (eUn_k1 f) := by rw [eUn_def]; rfl
def eB_k1 (f : List D → Option V) (es : List D) : Mi (D) := fun r => toO ((f es).map D.v) r
@[simp] theorem eB_k1_app (f : List D → Option V) (es : List D) (r : OEnv) : eB_k1 f es r = toO ((f es).map D.v) r := rfl
theorem eB_def (f : List D → Option V) (m : Mi (List D)) : eB f m = bnd (m) (eB_k1 f) := by
  funext r
  first | rfl | (unfold eB bnd; refine bind_ext fun x s => ?_; first | rfl | (cases x <;> rfl) | (refine bind_ext fun y s => ?_; first | rfl | (cases y <;> rfl) | (refine bind_ext fun z s => ?_; first | rfl | (cases z <;> rfl))))
@[simp] theorem eB_app (f : List D → Option V) (m : Mi (List D)) (r : OEnv) : eB f m r = (m r).bind (eB_k1 f) := by rw [eB_def]; rfl
def eCall_k2 (m : Mf) (π : List Nat) (xs : List D) (ys : List D) : Mi (D) := fun r => (m (perm .non π (xs ++ ys))).at_ r
@[simp] theorem eCall_k2_app (m : Mf) (π : List Nat) (xs : List D) (ys : List D) (r : OEnv) : eCall_k2 m π xs ys r = (m (perm .non π (xs ++ ys))).at_ r := rfl
def eCall_k1 (m : Mf) (π : List Nat) (mk : Mi (List D)) (xs : List D) : Mi (D) := bnd (mk) (eCall_k2 m π xs)
@[simp] theorem eCall_k1_app (m : Mf) (π : List Nat) (mk : Mi (List D)) (xs : List D) (r : OEnv) : eCall_k1 m π mk xs r = (mk r).bind (eCall_k2 m π xs) := rfl
theorem eCall_def (m : Mf) (π : List Nat) (ma : Mi (List D)) (mk : Mi (List D)) : eCall m π ma mk = bnd (ma) (eCall_k1 m π mk) := by
  funext r
  first | rfl | (unfold eCall bnd; refine bind_ext fun x s => ?_; first | rfl | (cases x <;> rfl) | (refine bind_ext fun y s => ?_; first | rfl | (cases y <;> rfl) | (refine bind_ext fun z s => ?_; first | rfl | (cases z <;> rfl))))
@[simp] theorem eCall_app (m : Mf) (π : List Nat) (ma : Mi (List D)) (mk : Mi (List D)) (r : OEnv) : eCall m π ma mk r = (ma r).bind (eCall_k1 m π mk) := by rw [eCall_def]; rfl
def gVal_k2 (x : D) (xs : List Ag) : Mi (List Ag) := fun r => .ok (.inl x :: xs) r
@[simp] theorem gVal_k2_app (x : D) (xs : List Ag) (r : OEnv) : gVal_k2 x xs r = .ok (.inl x :: xs) r := rfl
def gVal_k1 (ms : Mi (List Ag)) (x : D) : Mi (List Ag) := bnd (ms) (gVal_k2 x)
@[simp] theorem gVal_k1_app (ms : Mi (List Ag)) (x : D) (r : OEnv) : gVal_k1 ms x r = (ms r).bind (gVal_k2 x) := rfl
theorem gVal_def (m : Mi D) (ms : Mi (List Ag)) : gVal m ms = bnd (m) (gVal_k1 ms) := by
  funext r
  first | rfl | (unfold gVal bnd; refine bind_ext fun x s => ?_; first | rfl | (cases x <;> rfl) | (refine bind_ext fun y s => ?_; first | rfl | (cases y <;> rfl) | (refine bind_ext fun z s => ?_; first | rfl | (cases z <;> rfl))))
@[simp] theorem gVal_app (m : Mi D) (ms : Mi (List Ag)) (r : OEnv) : gVal m ms r = (m r).bind (gVal_k1 ms) := by rw [gVal_def]; rfl
def eCallG_k1 (m : Mf) (xs : List Ag) : Mi (D) := fun r => callOut m xs r
@[simp] theorem eCallG_k1_app (m : Mf) (xs : List Ag) (r : OEnv) : eCallG_k1 m xs r = callOut m xs r := rfl
theorem eCallG_def (m : Mf) (ms : Mi (List Ag)) : eCallG m ms = bnd (ms) (eCallG_k1 m) := by
  funext r
  first | rfl | (unfold eCallG bnd; refine bind_ext fun x s => ?_; first | rfl | (cases x <;> rfl) | (refine bind_ext fun y s => ?_; first | rfl | (cases y <;> rfl) | (refine bind_ext fun z s => ?_; first | rfl | (cases z <;> rfl))))
@[simp] theorem eCallG_app (m : Mf) (ms : Mi (List Ag)) (r : OEnv) : eCallG m ms r = (ms r).bind (eCallG_k1 m) := by rw [eCallG_def]; rfl
def sSet_k1 (i : Nat) (d : D) : Mi (Ctl) := fun r => setI i d r
@[simp] theorem sSet_k1_app (i : Nat) (d : D) (r : OEnv) : sSet_k1 i d r = setI i d r := rfl
theorem sSet_def (i : Nat) (m : Mi D) : sSet i m = bnd (m) (sSet_k1 i) := by
  funext r
  first | rfl | (unfold sSet bnd; refine bind_ext fun x s => ?_; first | rfl | (cases x <;> rfl) | (refine bind_ext fun y s => ?_; first | rfl | (cases y <;> rfl) | (refine bind_ext fun z s => ?_; first | rfl | (cases z <;> rfl))))
@[simp] theorem sSet_app (i : Nat) (m : Mi D) (r : OEnv) : sSet i m r = (m r).bind (sSet_k1 i) := by rw [sSet_def]; rfl
def sRet_k1  (d : D) : Mi (Ctl) := fun r => .ok (.rt d) r
@[simp] theorem sRet_k1_app  (d : D) (r : OEnv) : sRet_k1  d r = .ok (.rt d) r := rfl
theorem sRet_def (m : Mi D) : sRet m = bnd (m) sRet_k1 := by
  funext r
  first | rfl | (unfold sRet bnd; refine bind_ext fun x s => ?_; first | rfl | (cases x <;> rfl) | (refine bind_ext fun y s => ?_; first | rfl | (cases y <;> rfl) | (refine bind_ext fun z s => ?_; first | rfl | (cases z <;> rfl))))
@[simp] theorem sRet_app (m : Mi D) (r : OEnv) : sRet m r = (m r).bind sRet_k1 := by rw [sRet_def]; rfl
def sExp_k1  (d : D) : Mi (Ctl) := fun r => .ok .nx r
@[simp] theorem sExp_k1_app  (d : D) (r : OEnv) : sExp_k1  d r = .ok .nx r := rfl
theorem sExp_def (m : Mi D) : sExp m = bnd (m) sExp_k1 := by
  funext r
  first | rfl | (unfold sExp bnd; refine bind_ext fun x s => ?_; first | rfl | (cases x <;> rfl) | (refine bind_ext fun y s => ?_; first | rfl | (cases y <;> rfl) | (refine bind_ext fun z s => ?_; first | rfl | (cases z <;> rfl))))
@[simp] theorem sExp_app (m : Mi D) (r : OEnv) : sExp m r = (m r).bind sExp_k1 := by rw [sExp_def]; rfl
def sIf_k1 (m : Ms) (n : Ms) (k : Bool) : Mi (Ctl) := fun r => if k = true then m r else n r
@[simp] theorem sIf_k1_app (m : Ms) (n : Ms) (k : Bool) (r : OEnv) : sIf_k1 m n k r = if k = true then m r else n r := rfl
theorem sIf_def (c : Mi Bool) (m : Ms) (n : Ms) : sIf c m n = bnd (c) (sIf_k1 m n) := by
  funext r
  first | rfl | (unfold sIf bnd; refine bind_ext fun x s => ?_; first | rfl | (cases x <;> rfl) | (refine bind_ext fun y s => ?_; first | rfl | (cases y <;> rfl) | (refine bind_ext fun z s => ?_; first | rfl | (cases z <;> rfl))))
@[simp] theorem sIf_app (c : Mi Bool) (m : Ms) (n : Ms) (r : OEnv) : sIf c m n r = (c r).bind (sIf_k1 m n) := by rw [sIf_def]; rfl
def sAsg_k1 (mt : Mt) (d : D) : Mi (Ctl) := fun r => toN (mt d r)
@[simp] theorem sAsg_k1_app (mt : Mt) (d : D) (r : OEnv) : sAsg_k1 mt d r = toN (mt d r) := rfl
theorem sAsg_def (m : Mi D) (mt : Mt) : sAsg m mt = bnd (m) (sAsg_k1 mt) := by
  funext r
  first | rfl | (unfold sAsg bnd; refine bind_ext fun x s => ?_; first | rfl | (cases x <;> rfl) | (refine bind_ext fun y s => ?_; first | rfl | (cases y <;> rfl) | (refine bind_ext fun z s => ?_; first | rfl | (cases z <;> rfl))))
@[simp] theorem sAsg_app (m : Mi D) (mt : Mt) (r : OEnv) : sAsg m mt r = (m r).bind (sAsg_k1 mt) := by rw [sAsg_def]; rfl
def sPar_k1 (is : List Nat) (ds : List D) : Mi (Ctl) := fun r => toN (setAll is ds r)
@[simp] theorem sPar_k1_app (is : List Nat) (ds : List D) (r : OEnv) : sPar_k1 is ds r = toN (setAll is ds r) := rfl
theorem sPar_def (is : List Nat) (m : Mi (List D)) : sPar is m = bnd (m) (sPar_k1 is) := by
  funext r
  first | rfl | (unfold sPar bnd; refine bind_ext fun x s => ?_; first | rfl | (cases x <;> rfl) | (refine bind_ext fun y s => ?_; first | rfl | (cases y <;> rfl) | (refine bind_ext fun z s => ?_; first | rfl | (cases z <;> rfl))))
@[simp] theorem sPar_app (is : List Nat) (m : Mi (List D)) (r : OEnv) : sPar is m r = (m r).bind (sPar_k1 is) := by rw [sPar_def]; rfl
def sAug_k3 (i : Nat) (z : D) : Mi (Ctl) := fun r => setI i z r
@[simp] theorem sAug_k3_app (i : Nat) (z : D) (r : OEnv) : sAug_k3 i z r = setI i z r := rfl
def sAug_k2 (i : Nat) (f : D → D → Option D) (x : D) (y : D) : Mi (Ctl) := bnd (lift (f x y)) (sAug_k3 i)
@[simp] theorem sAug_k2_app (i : Nat) (f : D → D → Option D) (x : D) (y : D) (r : OEnv) : sAug_k2 i f x y r = ((lift (f x y)) r).bind (sAug_k3 i) := rfl
def sAug_k1 (i : Nat) (f : D → D → Option D) (m : Mi D) (x : D) : Mi (Ctl) := bnd (m) (sAug_k2 i f x)
@[simp] theorem sAug_k1_app (i : Nat) (f : D → D → Option D) (m : Mi D) (x : D) (r : OEnv) : sAug_k1 i f m x r = (m r).bind (sAug_k2 i f x) := rfl
theorem sAug_def (i : Nat) (f : D → D → Option D) (m : Mi D) : sAug i f m = bnd (eVar i) (sAug_k1 i f m) := by
  funext r
  first | rfl | (unfold sAug bnd; refine bind_ext fun x s => ?_; first | rfl | (cases x <;> rfl) | (refine bind_ext fun y s => ?_; first | rfl | (cases y <;> rfl) | (refine bind_ext fun z s => ?_; first | rfl | (cases z <;> rfl))))
@[simp] theorem sAug_app (i : Nat) (f : D → D → Option D) (m : Mi D) (r : OEnv) : sAug i f m r = ((eVar i) r).bind (sAug_k1 i f m) := by rw [sAug_def]; rfl
def iVal_k1  (x : D) : Mi (List D) := fun r => toO (itemsOf x) r
@[simp] theorem iVal_k1_app  (x : D) (r : OEnv) : iVal_k1  x r = toO (itemsOf x) r := rfl
theorem iVal_def (m : Mi D) : iVal m = bnd (m) iVal_k1 := by
  funext r
  first | rfl | (unfold iVal bnd; refine bind_ext fun x s => ?_; first | rfl | (cases x <;> rfl) | (refine bind_ext fun y s => ?_; first | rfl | (cases y <;> rfl) | (refine bind_ext fun z s => ?_; first | rfl | (cases z <;> rfl))))
@[simp] theorem iVal_app (m : Mi D) (r : OEnv) : iVal m r = (m r).bind iVal_k1 := by rw [iVal_def]; rfl
def iRng_k1  (xs : List D) : Mi (List D) := fun r => toO (rngOf xs) r
@[simp] theorem iRng_k1_app  (xs : List D) (r : OEnv) : iRng_k1  xs r = toO (rngOf xs) r := rfl
theorem iRng_def (m : Mi (List D)) : iRng m = bnd (m) iRng_k1 := by
  funext r
  first | rfl | (unfold iRng bnd; refine bind_ext fun x s => ?_; first | rfl | (cases x <;> rfl) | (refine bind_ext fun y s => ?_; first | rfl | (cases y <;> rfl) | (refine bind_ext fun z s => ?_; first | rfl | (cases z <;> rfl))))
@[simp] theorem iRng_app (m : Mi (List D)) (r : OEnv) : iRng m r = (m r).bind iRng_k1 := by rw [iRng_def]; rfl
def sFor_k1 (mt : Mt) (b : Ms) (ds : List D) : Mi (Ctl) := fun r => forL mt b ds r
@[simp] theorem sFor_k1_app (mt : Mt) (b : Ms) (ds : List D) (r : OEnv) : sFor_k1 mt b ds r = forL mt b ds r := rfl
theorem sFor_def (mi : Mi (List D)) (mt : Mt) (b : Ms) : sFor mi mt b = bnd (mi) (sFor_k1 mt b) := by
  funext r
  first | rfl | (unfold sFor bnd; refine bind_ext fun x s => ?_; first | rfl | (cases x <;> rfl) | (refine bind_ext fun y s => ?_; first | rfl | (cases y <;> rfl) | (refine bind_ext fun z s => ?_; first | rfl | (cases z <;> rfl))))
@[simp] theorem sFor_app (mi : Mi (List D)) (mt : Mt) (b : Ms) (r : OEnv) : sFor mi mt b r = (mi r).bind (sFor_k1 mt b) := by rw [sFor_def]; rfl
def eLc_k1 (own : List Nat) (mt : Mt) (mc : Mi Bool) (me : Mi D) (ds : List D) : Mi (D) := fun r => if ds.length ≤ 16777216 then lcL own r mt mc me [] ds (wipeE own r) else .bad
@[simp] theorem eLc_k1_app (own : List Nat) (mt : Mt) (mc : Mi Bool) (me : Mi D) (ds : List D) (r : OEnv) : eLc_k1 own mt mc me ds r = if ds.length ≤ 16777216 then lcL own r mt mc me [] ds (wipeE own r) else .bad := rfl
theorem eLc_def (own : List Nat) (mi : Mi (List D)) (mt : Mt) (mc : Mi Bool) (me : Mi D) : eLc own mi mt mc me = bnd (mi) (eLc_k1 own mt mc me) := by
  funext r
  first | rfl | (unfold eLc bnd; refine bind_ext fun x s => ?_; first | rfl | (cases x <;> rfl) | (refine bind_ext fun y s => ?_; first | rfl | (cases y <;> rfl) | (refine bind_ext fun z s => ?_; first | rfl | (cases z <;> rfl))))
@[simp] theorem eLc_app (own : List Nat) (mi : Mi (List D)) (mt : Mt) (mc : Mi Bool) (me : Mi D) (r : OEnv) : eLc own mi mt mc me r = (mi r).bind (eLc_k1 own mt mc me) := by rw [eLc_def]; rfl
section
variable (ρ : OEnv)
@[simp] theorem gNil_app : DM.gNil ρ = .ok [] ρ := rfl
def isSet (o : Option (Option D)) : Bool := match o with
  | some (some _) => true
  | _ => false
@[simp] theorem isSet_some (d : D) : isSet (some (some d)) = true := rfl
@[simp] theorem gOwn_app (i : Nat) (ms : Mi (List Ag)) : gOwn i ms ρ = if isSet ρ[i]? then (ms ρ).bind fun xs ρ2 => .ok (.inr i :: xs) ρ2 else .bad := by
  unfold gOwn isSet
  split
  · rename_i d e
    simp [e]; rfl
  · rename_i e
    cases q : ρ[i]? with
    | none => simp
    | some y => cases y with
      | none => simp
      | some d => exact absurd q (e d)
@[simp] theorem callOut_app (m : Mf) (xs : List Ag) : callOut m xs ρ = (toO (fetch xs ρ) ρ).bind fun r _ => (m r.1).back xs r.2 := by
  unfold callOut
  cases fetch xs ρ <;> rfl
@[simp] theorem mfOf_app (n : Nat) (sh : List Sh) (sr : Sh) (m : Ms) (ds : List D) : mfOf n sh sr m ds = (m (ds.map some ++ List.replicate (n - ds.length) none)).fo sh sr ds := rfl
@[simp] theorem sNil_app : sNil ρ = .ok .nx ρ := rfl
@[simp] theorem sSeq_app (m n : Ms) : sSeq m n ρ = (m ρ).seq n := rfl
@[simp] theorem setI_app (i : Nat) (d : D) : setI i d ρ = if i < ρ.length then .ok .nx (ρ.set i (some d)) else .bad := rfl
@[simp] theorem sRetN_app : sRetN ρ = .ok (.rt .non) ρ := rfl
@[simp] theorem gNm_app (i : Nat) (d : D) : gNm i d ρ = if i < ρ.length then some (ρ.set i (some d)) else none := rfl
def getI (o : Out D) : Option (Int × OEnv) := match o with
  | .ok (.v (.int k)) ρ1 => some (k, ρ1)
  | _ => none
@[simp] theorem getI_ok (k : Int) : getI (.ok (.v (.int k)) ρ) = some (k, ρ) := rfl
def getL (o : Option (Option D)) : Option (List D) := match o with
  | some (some (.lst ds)) => some ds
  | _ => none
@[simp] theorem getL_some (ds : List D) : getL (some (some (.lst ds))) = some ds := rfl
@[simp] theorem gSet_app (i : Nat) (mi : Mi D) (d : D) : gSet i mi d ρ = if isSet ρ[i]? then (getI (mi ρ)).bind fun r => (getL r.2[i]?).bind fun ds => (ixN ds.length r.1).map fun j => r.2.set i (some (.lst (ds.set j d))) else none := by
  unfold gSet isSet
  split
  · rename_i d0 e
    simp only [e]
    unfold getI getL
    split
    · split <;> simp_all
    · simp_all
  · rename_i e
    cases q : ρ[i]? with
    | none => simp
    | some y => cases y with
      | none => simp
      | some d => exact absurd q (e d)
@[simp] theorem gsNil_app : gsNil [] ρ = some ρ := rfl
@[simp] theorem gsCons_app (m : Mt) (ms : Mts) (d : D) (ds : List D) : gsCons m ms (d :: ds) ρ = (m d ρ).bind fun ρ1 => ms ds ρ1 := rfl
@[simp] theorem gTupM_app (n : Nat) (ms : Mts) (ds : List D) : gTupM n ms (.tup ds) ρ = if ds.length = n then ms ds ρ else none := rfl
@[simp] theorem gTupM_appL (n : Nat) (ms : Mts) (ds : List D) : gTupM n ms (.lst ds) ρ = if ds.length = n then ms ds ρ else none := rfl
@[simp] theorem setAll_nil : setAll [] [] ρ = some ρ := rfl
@[simp] theorem setAll_cons (i : Nat) (is : List Nat) (d : D) (ds : List D) : setAll (i :: is) (d :: ds) ρ = if i < ρ.length then setAll is ds (ρ.set i (some d)) else none := rfl
theorem forL_nil (mt : Mt) (body : Ms) : forL mt body [] ρ = .ok .nx ρ := rfl
def turnK (mt : Mt) (body : Ms) (ds : List D) : Ms := fun ρ1 => (body ρ1).turn (forL mt body ds)
@[simp] theorem turnK_app (mt : Mt) (body : Ms) (ds : List D) : turnK mt body ds ρ = (body ρ).turn (forL mt body ds) := rfl
theorem forL_cons (mt : Mt) (body : Ms) (d : D) (ds : List D) : forL mt body (d :: ds) ρ = (toN (mt d ρ)).seq (turnK mt body ds) := by
  cases e : mt d ρ with
  | none => simp only [forL, e]; rfl
  | some ρ1 =>
    cases eb : body ρ1 with
    | ok c ρ2 => cases c <;> simp only [forL, e, eb, toN_some, Out.seq_nx, turnK_app] <;> rfl
    | exc x ρ2 => simp only [forL, e, eb, toN_some, Out.seq_nx, turnK_app]; rfl
    | bad => simp only [forL, e, eb, toN_some, Out.seq_nx, turnK_app]; rfl
theorem lcL_nil (own : List Nat) (ρ0 : OEnv) (mt : Mt) (mc : Mi Bool) (me : Mi D) (acc : List D) : lcL own ρ0 mt mc me acc [] ρ = .ok (.lst acc) (restE own ρ0 ρ) := rfl
/-- an element that comes -/
theorem lcL_in {own : List Nat} {ρ0 ρ ρ1 ρ2 ρ3 : OEnv} {mt : Mt} {mc : Mi Bool} {me : Mi D} {acc : List D} {d x : D} {ds : List D} (h1 : mt d ρ = some ρ1) (h2 : mc ρ1 = .ok true ρ2) (h3 : me ρ2 = .ok x ρ3) :
    lcL own ρ0 mt mc me acc (d :: ds) ρ = lcL own ρ0 mt mc me (acc ++ [x]) ds (wipeE own ρ3) := by
  simp only [lcL, h1, h2, h3]
theorem lcL_out {own : List Nat} {ρ0 ρ ρ1 ρ2 : OEnv} {mt : Mt} {mc : Mi Bool} {me : Mi D} {acc : List D} {d : D} {ds : List D} (h1 : mt d ρ = some ρ1) (h2 : mc ρ1 = .ok false ρ2) :
    lcL own ρ0 mt mc me acc (d :: ds) ρ = lcL own ρ0 mt mc me acc ds (wipeE own ρ2) := by
  simp only [lcL, h1, h2]
end
/-- a comprehension whose parts change nothing -/
theorem lcL_pure {own : List Nat} {ρ0 ρ : OEnv} {mt : Mt} {mc : Mi Bool} {me : Mi D} {p : D → Bool} {f : D → D} : ∀ {ds acc : List D}, (∀ d ∈ ds, ∃ ρ1, mt d ρ = some ρ1 ∧ mc ρ1 = .ok (p d) ρ1 ∧ (p d = true → me ρ1 = .ok (f d) ρ1) ∧ wipeE own ρ1 = ρ) →
    lcL own ρ0 mt mc me acc ds ρ = .ok (.lst (acc ++ (ds.filter p).map f)) (restE own ρ0 ρ)
  | [], acc, _ => by simp [lcL]
  | d :: ds, acc, h => by
    obtain ⟨ρ1, h1, h2, h3, h4⟩ := h d List.mem_cons_self
    have ih := fun acc => lcL_pure (ρ0 := ρ0) (ds := ds) (acc := acc) fun d hd => h d (List.mem_cons_of_mem _ hd)
    cases e : p d with
    | true =>
      rw [lcL_in h1 (h2.trans (by rw [e])) (h3 e), h4, ih]
      simp [e]
    | false =>
      rw [lcL_out h1 (h2.trans (by rw [e])), h4, ih]
      simp [e]
/-- a loop over an invariant: J i ρ holds ahead of the turn i -/
theorem forL_inv {mt : Mt} {body : Ms} (J : Nat → OEnv → Prop) : ∀ {ds : List D} {i : Nat} {ρ : OEnv}, J i ρ → (∀ k d ρ, ds[k]? = some d → J (i + k) ρ → ∃ ρ1 ρ2, mt d ρ = some ρ1 ∧ (body ρ1 = .ok .nx ρ2 ∨ body ρ1 = .ok .ct ρ2) ∧ J (i + k + 1) ρ2) →
    ∃ ρ', forL mt body ds ρ = .ok .nx ρ' ∧ J (i + ds.length) ρ'
  | [], i, ρ, j, _ => ⟨ρ, rfl, j⟩
  | d :: ds, i, ρ, j, h => by
    obtain ⟨ρ1, ρ2, h1, h2, j2⟩ := h 0 d ρ rfl j
    obtain ⟨ρ', h3, j3⟩ := forL_inv J (ds := ds) (i := i + 1) (ρ := ρ2) j2 fun k d ρ hd j => by
      have := h (k + 1) d ρ (by simpa using hd) (by rw [show i + (k + 1) = i + 1 + k by omega]; exact j)
      rw [show i + (k + 1) + 1 = i + 1 + k + 1 by omega] at this
      exact this
    refine ⟨ρ', ?_, by rw [List.length_cons, show i + (ds.length + 1) = i + 1 + ds.length by omega]; exact j3⟩
    rw [forL_cons, h1]
    rcases h2 with h2 | h2 <;> simp [h2, h3]

/-! ### operations -/
theorem small_of {i : Int} (h1 : -(2 ^ 1000) ≤ i) (h2 : i ≤ 2 ^ 1000) : small i = true := by
  unfold small
  refine decide_eq_true ?_
  have : i.natAbs < 2 ^ 1001 := by
    have e : (2 : Int) ^ 1000 + 2 ^ 1000 = 2 ^ 1001 := by decide +kernel
    have e2 : ((2 ^ 1001 : Nat) : Int) = 2 ^ 1001 := by decide +kernel
    omega
  by_cases h0 : i.natAbs = 0
  · rw [h0]; decide +kernel
  · have := (Nat.log2_lt h0).mpr this
    omega
theorem small_b {i : Int} (h1 : -(10 ^ 60) ≤ i) (h2 : i ≤ 10 ^ 60) : small i = true := by
  have e : (10 : Int) ^ 60 ≤ 2 ^ 1000 := by decide +kernel
  exact small_of (by omega) (by omega)
@[simp] theorem opAdd_ii (i j : Int) : opAdd (.v (.int i)) (.v (.int j)) = some (.int (i + j)) := rfl
@[simp] theorem opSub_ii (i j : Int) : opSub (.v (.int i)) (.v (.int j)) = some (.int (i - j)) := rfl
theorem opMul_ii {i j : Int} (h1 : small i = true) (h2 : small j = true) : opMul (.v (.int i)) (.v (.int j)) = some (.int (i * j)) := by
  show (if (small i && small j) = true then some (D.int (i * j)) else none) = _
  rw [h1, h2]; rfl
theorem opMod_ii {i j : Int} (h : 0 < j) : opMod (.v (.int i)) (.v (.int j)) = some (.int (i % j)) := if_pos h
theorem opFdiv_ii {i j : Int} (h : 0 < j) (h2 : j.natAbs.log2 < 9000) : opFdiv (.v (.int i)) (.v (.int j)) = some (.int (i / j)) := if_pos ⟨h, h2⟩
theorem opPow_ii {i j : Int} (h : 0 ≤ j) (h2 : j ≤ 1000) (h3 : i.natAbs < 2 ^ 64) : opPow (.v (.int i)) (.v (.int j)) = some (.int (i ^ j.toNat)) := if_pos ⟨h, h2, h3⟩
@[simp] theorem opI2_ii (f : Int → Int → Bool) (i j : Int) : opI2 f (.v (.int i)) (.v (.int j)) = some (f i j) := rfl
@[simp] theorem opNeg_i (i : Int) : opNeg (.v (.int i)) = some (.int (-i)) := rfl
@[simp] theorem asB_b (b : Bool) : asB (.v (.bl b)) = some b := rfl
@[simp] theorem asI_i (b : Int) : asI (.v (.int b)) = some b := rfl
@[simp] theorem asS_s (b : Str) : asS (.v (.str b)) = some b := rfl
theorem log2_63 {n : Nat} (h : n ≤ 63) : ((n : Int)).natAbs.log2 < 9000 := by
  have : ((n : Int)).natAbs = n := by simp
  rw [this]
  have := Nat.log2_le_self n
  omega
theorem atI_mod {α : Type} {xs : List α} {k : Int} (h : 0 < xs.length) : ∃ x, atI xs (k % (xs.length : Int)) = some x := by
  have h1 := Int.emod_nonneg k (b := (xs.length : Int)) (by omega)
  have h2 := Int.emod_lt_of_pos k (b := (xs.length : Int)) (by omega)
  have e : ((k % (xs.length : Int)).toNat : Int) = k % (xs.length : Int) := Int.toNat_of_nonneg h1
  have h3 : (k % (xs.length : Int)).toNat < xs.length := by omega
  refine ⟨xs[(k % (xs.length : Int)).toNat], ?_⟩
  have := atI_nat (xs := xs) (j := (k % (xs.length : Int)).toNat) (List.getElem?_eq_getElem h3)
  rw [e] at this
  exact this
def eSm_k3 (f : Str → List D → Option V) (z : Str) (es : List D) : Mi D := fun r => toO ((f z es).map D.v) r
@[simp] theorem eSm_k3_app (f : Str → List D → Option V) (z : Str) (es : List D) (r : OEnv) : eSm_k3 f z es r = toO ((f z es).map D.v) r := rfl
def eSm_k2 (f : Str → List D → Option V) (ma : Mi (List D)) (z : Str) : Mi D := bnd ma (eSm_k3 f z)
@[simp] theorem eSm_k2_app (f : Str → List D → Option V) (ma : Mi (List D)) (z : Str) (r : OEnv) : eSm_k2 f ma z r = (ma r).bind (eSm_k3 f z) := rfl
def eSm_k1 (f : Str → List D → Option V) (ma : Mi (List D)) (x : D) : Mi D := bnd (lift (asS x)) (eSm_k2 f ma)
@[simp] theorem eSm_k1_app (f : Str → List D → Option V) (ma : Mi (List D)) (x : D) (r : OEnv) : eSm_k1 f ma x r = (toO (asS x) r).bind (eSm_k2 f ma) := rfl
@[simp] theorem eSm_app (f : Str → List D → Option V) (mo : Mi D) (ma : Mi (List D)) (r : OEnv) : eSm f mo ma r = (mo r).bind (eSm_k1 f ma) := by
  unfold eSm bnd
  refine bind_ext fun x s => ?_
  rw [eSm_k1_app]
  cases e : asS x with
  | none => rfl
  | some z => rfl
end DM
/-! DmQ: plain rows about texts, lists, reprs. -/
namespace DM
open PySem PySem.Spec PyProof.Rows L2
/-! ### texts -/
theorem sub_one (c : Nat) (j : Str) : subStr ⟨#[c]⟩ j = decide (c ∈ j.cps.toList) := by
  unfold subStr
  exact StrLaws.found_one j c
/-- a text of signs below 128 -/
structure OkS (n : Nat) (w : Str) : Prop where
  len : w.length ≤ n
  low : ∀ c ∈ w.cps.toList, c < 128
theorem slen (w : Str) : w.cps.toList.length = w.length := by simp [Str.length]
theorem app_cps (a b : Str) : (a ++ b).cps.toList = a.cps.toList ++ b.cps.toList := by
  show (a.cps ++ b.cps).toList = _
  simp
theorem app_len (a b : Str) : (a ++ b).length = a.length + b.length := by
  rw [← slen, ← slen, ← slen, app_cps, List.length_append]
theorem OkS.app {n m : Nat} {a b : Str} (h1 : OkS n a) (h2 : OkS m b) : OkS (n + m) (a ++ b) := by
  refine ⟨?_, fun c hc => ?_⟩
  · rw [app_len]
    have := h1.len; have := h2.len; omega
  · rw [app_cps] at hc
    exact (List.mem_append.mp hc).elim (h1.low c) (h2.low c)
theorem OkS.mono {n m : Nat} {a : Str} (h : OkS n a) (k : n ≤ m) : OkS m a := ⟨by have := h.len; omega, h.low⟩
theorem OkS.cut {n : Nat} {a : Str} (h : OkS n a) (lo hi : Option Int) : OkS n (cutS a lo hi) := by
  have hs : ((a.cps.toList.drop (HT.sIx a.length 0 lo)).take (HT.sIx a.length a.length hi - HT.sIx a.length 0 lo)).Sublist a.cps.toList := (List.take_sublist _ _).trans (List.drop_sublist _ _)
  refine ⟨?_, fun c hc => h.low c (hs.subset (by simpa [cutS] using hc))⟩
  have := hs.length_le
  rw [slen] at this
  have e : (cutS a lo hi).length = ((a.cps.toList.drop (HT.sIx a.length 0 lo)).take (HT.sIx a.length a.length hi - HT.sIx a.length 0 lo)).length := by
    rw [← slen]; simp [cutS]
  have := h.len
  omega
def okS (n : Nat) (w : Str) : Bool := decide (w.length ≤ n) && w.cps.toList.all fun c => decide (c < 128)
theorem okS_of {n : Nat} {w : Str} (h : okS n w = true) : OkS n w := by
  obtain ⟨h1, h2⟩ := Bool.and_eq_true_iff.mp h
  exact ⟨of_decide_eq_true h1, fun c hc => of_decide_eq_true (List.all_eq_true.mp h2 c hc)⟩
/-! ### a comprehension, by what its elements are -/
theorem lcL_ex {own : List Nat} {ρ0 ρ : OEnv} {mt : Mt} {mc : Mi Bool} {me : Mi D} {P : D → Prop} : ∀ {ds acc : List D}, (∀ d ∈ ds, ∃ ρ1 x, mt d ρ = some ρ1 ∧ mc ρ1 = .ok true ρ1 ∧ me ρ1 = .ok x ρ1 ∧ wipeE own ρ1 = ρ ∧ P x) →
    ∃ xs, lcL own ρ0 mt mc me acc ds ρ = .ok (.lst (acc ++ xs)) (restE own ρ0 ρ) ∧ xs.length = ds.length ∧ ∀ x ∈ xs, P x
  | [], acc, _ => ⟨[], by simp [lcL], rfl, fun _ h => nomatch h⟩
  | d :: ds, acc, h => by
    obtain ⟨ρ1, x, h1, h2, h3, h4, h5⟩ := h d List.mem_cons_self
    obtain ⟨xs, g1, g2, g3⟩ := lcL_ex (ρ0 := ρ0) (ds := ds) (acc := acc ++ [x]) fun d hd => h d (List.mem_cons_of_mem _ hd)
    refine ⟨x :: xs, ?_, by simp [g2], fun y hy => ?_⟩
    · rw [lcL_in h1 h2 h3, h4, g1]
      simp
    · rcases List.mem_cons.mp hy with e | e
      · rw [e]; exact h5
      · exact g3 y e
/-- one-sign texts -/
theorem asSs_ones : ∀ xs : List D, (∀ x ∈ xs, ∃ c : Nat, x = .str ⟨#[c]⟩ ∧ c < 128) → ∃ cs : List Nat, asSs xs = some (cs.map fun c => ⟨#[c]⟩) ∧ cs.length = xs.length ∧ ∀ c ∈ cs, c < 128
  | [], _ => ⟨[], rfl, rfl, fun _ h => nomatch h⟩
  | x :: xs, h => by
    obtain ⟨c, rfl, hc⟩ := h x List.mem_cons_self
    obtain ⟨cs, h1, h2, h3⟩ := asSs_ones xs fun y hy => h y (List.mem_cons_of_mem _ hy)
    refine ⟨c :: cs, by simp [asSs, h1], by simp [h2], fun y hy => ?_⟩
    rcases List.mem_cons.mp hy with e | e
    · rw [e]; exact hc
    · exact h3 y e
theorem join_ones' (cs : List Nat) : Txt.join ⟨#[]⟩ (cs.map fun c => (⟨#[c]⟩ : Str)) = ⟨cs.toArray⟩ := (TL.join_eq _ _).trans (PyProof.Rows.join_ones cs)
theorem sum_ones (cs : List Nat) : ((cs.map fun c => (⟨#[c]⟩ : Str)).map (·.length)).sum = cs.length := by
  induction cs with
  | nil => rfl
  | cons c cs ih =>
    rw [List.map_cons, List.map_cons, List.sum_cons, ih, List.length_cons]
    show 1 + cs.length = _
    omega
theorem sm_join1 {xs : List D} (h : ∀ x ∈ xs, ∃ c : Nat, x = .str ⟨#[c]⟩ ∧ c < 128) (hl : xs.length ≤ 1000) : ∃ w, smJoin ⟨#[]⟩ [.lst xs] = some (.str w) ∧ OkS xs.length w ∧ w.length = xs.length := by
  obtain ⟨cs, h1, h2, h3⟩ := asSs_ones xs h
  have e : (cs.toArray).size = xs.length := by simp [h2]
  refine ⟨⟨cs.toArray⟩, ?_, ⟨?_, ?_⟩, e⟩
  · simp only [smJoin, h1]
    show (if _ then _ else _) = _
    rw [sum_ones, join_ones']
    rw [if_pos]
    simp only [List.length_map]
    show cs.length + cs.length * 0 ≤ 16777216
    omega
  · show (cs.toArray).size ≤ _
    omega
  · simpa using h3
/-! ### repr -/
theorem pow600 : (2 : Int) ^ 1000 ≤ 10 ^ 302 := by decide +kernel
theorem dec_len {i : Int} (h1 : -(2 ^ 1000) < i) (h2 : i < 2 ^ 1000) : (PyData.shown (.int i)).length ≤ 600 := by
  have e : PyData.shown (.int i) = Str.ofString (toString i) := rfl
  have p := pow600
  rw [e]
  by_cases h : 0 ≤ i
  · have := toString_length_le (v := i) h (k := 302) (by decide) (by omega)
    omega
  · rw [toString_neg (by omega), PyProof.Rows.ofString_length, String.toList_append, List.length_append, ← PyProof.Rows.ofString_length (toString (0 - i))]
    have := toString_length_le (v := 0 - i) (by omega) (k := 302) (by decide) (by omega)
    have e2 : ("-" : String).toList.length = 1 := rfl
    omega
theorem log_ok {i : Int} (h1 : -(2 ^ 1000) < i) (h2 : i < 2 ^ 1000) : i.natAbs.log2 < 1920 := by
  have : i.natAbs < 2 ^ 1000 := by
    have e2 : ((2 ^ 1000 : Nat) : Int) = 2 ^ 1000 := by decide +kernel
    omega
  by_cases h0 : i.natAbs = 0
  · rw [h0]; decide +kernel
  · have := (Nat.log2_lt h0).mpr this
    omega
mutual
/-- things whose repr is no trouble -/
def rok : D → Bool
  | .v x => match x with
    | .non | .bl _ => true
    | .int i => decide (-(2 ^ 1000) < i) && decide (i < 2 ^ 1000)
    | .str s => s.cps.toList.all fun c => decide (c < 16 ^ 8)
    | _ => false
  | .lst xs => rokAll xs
  | .tup xs => rokAll xs
  | .dct kvs => rokKv kvs
  | .scr _ => false
def rokAll : List D → Bool
  | [] => true
  | x :: xs => rok x && rokAll xs
def rokKv : List (D × D) → Bool
  | [] => true
  | p :: r => rok p.1 && rok p.2 && rokKv r
end
mutual
theorem rok_ok : ∀ d : D, rok d = true → d.plain = true ∧ d.py.showable = true ∧ d.py.leavesShort 600 = true
  | .v x, h => by
    cases x with
    | non => exact ⟨rfl, rfl, rfl⟩
    | bl b => exact ⟨rfl, rfl, rfl⟩
    | int i =>
      obtain ⟨h1, h2⟩ := Bool.and_eq_true_iff.mp (show (decide (-(2 ^ 1000) < i) && decide (i < 2 ^ 1000)) = true from h)
      exact ⟨rfl, decide_eq_true (log_ok (of_decide_eq_true h1) (of_decide_eq_true h2)), decide_eq_true (dec_len (of_decide_eq_true h1) (of_decide_eq_true h2))⟩
    | str s => exact ⟨rfl, rfl, h⟩
    | _ => cases h
  | .lst xs, h => rok_all xs h
  | .tup xs, h => rok_all xs h
  | .dct kvs, h => rok_kv kvs h
  | .scr _, h => by cases h
theorem rok_all : ∀ xs : List D, rokAll xs = true → plainAll xs = true ∧ PyData.showableAll (pyAll xs) = true ∧ PyData.leavesShortAll 600 (pyAll xs) = true
  | [], _ => ⟨rfl, rfl, rfl⟩
  | x :: xs, h => by
    obtain ⟨h1, h2⟩ := Bool.and_eq_true_iff.mp (show (rok x && rokAll xs) = true from h)
    obtain ⟨a1, a2, a3⟩ := rok_ok x h1
    obtain ⟨b1, b2, b3⟩ := rok_all xs h2
    refine ⟨?_, ?_, ?_⟩
    · show (x.plain && plainAll xs) = true
      rw [a1, b1]; rfl
    · show (x.py.showable && PyData.showableAll (pyAll xs)) = true
      rw [a2, b2]; rfl
    · show (x.py.leavesShort 600 && PyData.leavesShortAll 600 (pyAll xs)) = true
      rw [a3, b3]; rfl
theorem rok_kv : ∀ xs : List (D × D), rokKv xs = true → plainKv xs = true ∧ PyData.showableKv (pyKv xs) = true ∧ PyData.leavesShortKv 600 (pyKv xs) = true
  | [], _ => ⟨rfl, rfl, rfl⟩
  | p :: xs, h => by
    obtain ⟨h1, h2⟩ := Bool.and_eq_true_iff.mp (show (rok p.1 && rok p.2 && rokKv xs) = true from h)
    obtain ⟨h0, h1⟩ := Bool.and_eq_true_iff.mp h1
    obtain ⟨a1, a2, a3⟩ := rok_ok p.1 h0
    obtain ⟨c1, c2, c3⟩ := rok_ok p.2 h1
    obtain ⟨b1, b2, b3⟩ := rok_kv xs h2
    refine ⟨?_, ?_, ?_⟩
    · show (p.1.plain && p.2.plain && plainKv xs) = true
      rw [a1, c1, b1]; rfl
    · show (p.1.py.showable && p.2.py.showable && PyData.showableKv (pyKv xs)) = true
      rw [a2, c2, b2]; rfl
    · show (p.1.py.leavesShort 600 && p.2.py.leavesShort 600 && PyData.leavesShortKv 600 (pyKv xs)) = true
      rw [a3, c3, b3]; rfl
end
theorem repr_ok {d : D} (h : rok d = true) (hw : d.py.weight ≤ 20000) (hd : d.py.depth ≤ 60) : bRepr [d] = some (.str d.py.shown) := by
  obtain ⟨h1, h2, h3⟩ := rok_ok d h
  have h4 := PyData.shown_le 600 (by decide) d.py h3
  have : 602 * d.py.weight ≤ 602 * 20000 := Nat.mul_le_mul_left _ hw
  exact if_pos ⟨h1, h2, hd, by omega⟩
theorem low_ok {w : Str} {n : Nat} (h : OkS n w) : rok (.str w) = true := by
  show (w.cps.toList.all fun c => decide (c < 16 ^ 8)) = true
  refine List.all_eq_true.mpr fun c hc => decide_eq_true ?_
  have := h.low c hc
  have e : (128 : Nat) ≤ 16 ^ 8 := by decide
  omega
@[simp] theorem opNe_ss (a b : Str) : opNe (.v (.str a)) (.v (.str b)) = some (!decide (a = b)) := rfl
@[simp] theorem opEq_ss (a b : Str) : opEq (.v (.str a)) (.v (.str b)) = some (decide (a = b)) := rfl
@[simp] theorem opEq_ii (a b : Int) : opEq (.v (.int a)) (.v (.int b)) = some (decide (a = b)) := rfl
@[simp] theorem opNe_ii (a b : Int) : opNe (.v (.int a)) (.v (.int b)) = some (!decide (a = b)) := rfl
@[simp] theorem opIn_ss (a b : Str) : opIn (.v (.str a)) (.v (.str b)) = some (subStr a b) := rfl
@[simp] theorem opNotIn_ss (a b : Str) : opNotIn (.v (.str a)) (.v (.str b)) = some (!subStr a b) := rfl
theorem asBs_map {α : Type} (g : α → Bool) : ∀ xs : List α, asBs (xs.map fun c => D.bl (g c)) = some (xs.map g)
  | [] => rfl
  | x :: xs => by
    show (asB (D.bl (g x))).bind _ = _
    rw [show asB (D.bl (g x)) = some (g x) from rfl]
    simp [asBs_map g xs]
/-- texts are data of no trouble -/
theorem shp_strs (ws : List Str) (hw : ∀ w ∈ ws, PyData.strOk w = true) : shp (.lst (ws.map D.str)) = true := by
  have h : ∀ ws : List Str, (∀ w ∈ ws, PyData.strOk w = true) → plainAll (ws.map D.str) = true ∧ PyData.canLayAll0 (pyAll (ws.map D.str)) = true ∧ PyData.depthAll (pyAll (ws.map D.str)) = 0 := fun ws hw => by
    induction ws with
    | nil => exact ⟨rfl, by simp [pyAll, PyData.canLayAll0], by simp [pyAll, PyData.depthAll]⟩
    | cons w ws ih =>
      obtain ⟨a, b, c⟩ := ih fun z hz => hw z (List.mem_cons_of_mem _ hz)
      have s1 := hw w List.mem_cons_self
      refine ⟨?_, ?_, ?_⟩
      · show (true && plainAll (ws.map D.str)) = true
        rw [a]; rfl
      · simp [pyAll, D.py, PyData.canLayAll0, PyData.canLay0, b, s1]
      · simp [pyAll, D.py, PyData.depthAll, PyData.depth, c]
  obtain ⟨a, b, c⟩ := h ws hw
  unfold shp SeqAt.shaped
  have e1 : (D.lst (ws.map D.str)).plain = true := a
  rw [e1]
  simp [D.py, PyData.canLay0, PyData.depth, b, c]
theorem eq_empty (ws : List Str) (hw : ∀ w ∈ ws, PyData.strOk w = true) : opEq (.lst (ws.map D.str)) (.lst []) = some ws.isEmpty := by
  have h1 := shp_strs ws hw
  have h2 := shp_strs [] (fun _ h => nomatch h)
  show (if shp (.lst (ws.map D.str)) = true ∧ shp (.lst []) = true then some (PyData.eqv (D.lst (ws.map D.str)).py (D.lst []).py) else none) = _
  rw [if_pos ⟨h1, h2⟩]
  cases ws with
  | nil => simp [D.py, pyAll, PyData.eqv, PyData.eqvAll]
  | cons w ws => simp [D.py, pyAll, PyData.eqv, PyData.eqvAll]
/-- an item of a list -/
theorem ix_lst {ds : List D} {i : Int} (n : Int) (hn : n = ds.length) (h : 0 < n) : ∃ d ∈ ds, ixD (.lst ds) (.v (.int (i % n))) = some d := by
  subst hn
  obtain ⟨d, e⟩ := atI_mod (xs := ds) (k := i) (by omega)
  refine ⟨d, ?_, e⟩
  obtain ⟨j, h1, h2⟩ := atI_at e
  exact List.mem_of_getElem? h2
theorem ix_str {s : Str} {i : Int} (n : Int) (hn : n = s.length) (h : 0 < n) (hz : s.length ≤ 16777216) : ∃ c ∈ s.cps.toList, ixD (.v (.str s)) (.v (.int (i % n))) = some (.str ⟨#[c]⟩) := by
  subst hn
  have l := slen s
  obtain ⟨d, e⟩ := atI_mod (xs := s.cps.toList) (k := i) (by omega)
  rw [l] at e
  obtain ⟨j, h1, h2⟩ := atI_at e
  refine ⟨d, List.mem_of_getElem? h2, ?_⟩
  show (if s.length ≤ sizeLine then (atI s.cps.toList (i % s.length)).map (fun c => D.str ⟨#[c]⟩) else none) = _
  rw [if_pos (by rw [szl]; exact hz), e]; rfl
/-! ### more that is walked -/
def iZip_k (xs : List D) : Mi (List D) := lift (zipOf xs)
@[simp] theorem iZip_k_app (xs : List D) (r : OEnv) : iZip_k xs r = toO (zipOf xs) r := rfl
@[simp] theorem iZip_app (m : Mi (List D)) (r : OEnv) : iZip m r = (m r).bind iZip_k := rfl
def iEnumM_k (xs : List D) : Mi (List D) := lift (enumOf xs)
@[simp] theorem iEnumM_k_app (xs : List D) (r : OEnv) : iEnumM_k xs r = toO (enumOf xs) r := rfl
@[simp] theorem iEnumM_app (m : Mi (List D)) (r : OEnv) : iEnumM m r = (m r).bind iEnumM_k := rfl
/-- a list that is changed -/
def eMut_k (i : Nat) (f : List D → List D → Option (D × List D)) (es : List D) : Mi D := fun ρ1 => match ρ1[i]? with
  | some (some (.lst ds)) => (match f ds es with
    | some (d, ds') => .ok d (ρ1.set i (some (.lst ds')))
    | none => .bad)
  | _ => .bad
def mutO (o : Option (D × List D)) (i : Nat) (r : OEnv) : Out D := match o with
  | some (d, ds') => .ok d (r.set i (some (.lst ds')))
  | none => .bad
@[simp] theorem mutO_some (d : D) (ds : List D) (i : Nat) (r : OEnv) : mutO (some (d, ds)) i r = .ok d (r.set i (some (.lst ds))) := rfl
def mutG (o : Option (Option D)) (i : Nat) (f : List D → List D → Option (D × List D)) (es : List D) (r : OEnv) : Out D := match o with
  | some (some (.lst ds)) => mutO (f ds es) i r
  | _ => .bad
@[simp] theorem mutG_some (ds : List D) (i : Nat) (f : List D → List D → Option (D × List D)) (es : List D) (r : OEnv) : mutG (some (some (.lst ds))) i f es r = mutO (f ds es) i r := rfl
@[simp] theorem eMut_k_app (i : Nat) (f : List D → List D → Option (D × List D)) (es : List D) (r : OEnv) : eMut_k i f es r = mutG r[i]? i f es r := by
  unfold eMut_k mutG mutO
  cases r[i]? with
  | none => rfl
  | some y => cases y with
    | none => rfl
    | some d => cases d <;> rfl
@[simp] theorem eMut_app (i : Nat) (f : List D → List D → Option (D × List D)) (m : Mi (List D)) (r : OEnv) : eMut i f m r = if isSet r[i]? then (m r).bind (eMut_k i f) else .bad := by
  unfold eMut isSet
  split
  · rename_i d e
    simp only [e]
    rfl
  · rename_i e
    cases q : r[i]? with
    | none => simp
    | some y => cases y with
      | none => simp
      | some d => exact absurd q (e d)
theorem mAppend_ok {ds : List D} {x : D} (h : ds.length < 16777216) : mAppend ds [x] = some (.non, ds ++ [x]) := if_pos h
theorem opAdd_ll {xs ys : List D} (h : xs.length + ys.length ≤ 16777216) : opAdd (.lst xs) (.lst ys) = some (.lst (xs ++ ys)) := if_pos (by rw [szl]; exact h)
theorem opAdd_tt {xs ys : List D} (h : xs.length + ys.length ≤ 16777216) : opAdd (.tup xs) (.tup ys) = some (.tup (xs ++ ys)) := if_pos (by rw [szl]; exact h)
theorem rng_nat {n : Int} (h0 : 0 ≤ n) (h1 : n ≤ 1000000) : rngOf [.int n] = some ((List.range n.toNat).map fun (k : Nat) => D.int (k : Int)) := by
  have : big n = true := by unfold big; simp; omega
  simp [rngOf, this]
theorem mem_rng {n : Nat} {d : D} (h : d ∈ (List.range n).map fun (k : Nat) => D.int (k : Int)) : ∃ k : Nat, k < n ∧ d = .int (k : Int) := by
  obtain ⟨k, h1, h2⟩ := List.mem_map.mp h
  exact ⟨k, List.mem_range.mp h1, h2.symm⟩
theorem asIs_map {α : Type} (g : α → Int) : ∀ xs : List α, asIs (xs.map fun c => D.int (g c)) = some (xs.map g)
  | [] => rfl
  | x :: xs => by
    show (asI (D.int (g x))).bind _ = _
    rw [show asI (D.int (g x)) = some (g x) from rfl]
    simp [asIs_map g xs]
theorem bSum_map {α : Type} (g : α → Int) (xs : List α) : bSum [.lst (xs.map fun c => D.int (g c))] = some (.int (xs.map g).sum) := by
  show (asIs _).map _ = _
  rw [asIs_map]; rfl
/-- whole numbers' weight -/
theorem w_int {i : Int} (h1 : -(2 ^ 1000) < i) (h2 : i < 2 ^ 1000) : (PyData.int i).weight ≤ 1921 := by
  have := log_ok h1 h2
  show (if i == 0 then 0 else i.natAbs.log2 + 1) ≤ 1921
  split <;> omega
end DM
namespace Gk19
open PySem PySem.Spec PyProof.Rows L2 DM
theorem mf_whole (d : D) (n : String) (h : tyN d = some n) : mf_is_whole [d] = .ok (.bl (isTy n "int" && !isTy n "bool")) [d] := by
  cases h1 : isTy n "int" <;> simp [mf_is_whole, b_is_whole, bIsi, h, h1, fin]
-- the loop of the cell
theorem own_loop (a0 a1 a2 a3 : D) : ∀ (ds : List D) (o : Int) (x : Option D), ∃ (o' : Int) (x' : Option D), forL (gNm 5) (sSeq (sSet 4 (eOp opFdiv (eVar 4) (eK (.int 306783379)))) sNil) ds [some a0, some a1, some a2, some a3, some (.int o), x] = .ok .nx [some a0, some a1, some a2, some a3, some (.int o'), x']
  | [], o, x => ⟨o, x, rfl⟩
  | d :: ds, o, x => by
    obtain ⟨o', x', h⟩ := own_loop a0 a1 a2 a3 ds (o / 306783379) (some d)
    refine ⟨o', x', ?_⟩
    rw [forL_cons]
    have e : opFdiv (.v (.int o)) (.v (.int 306783379)) = some (.int (o / 306783379)) := opFdiv_ii (by decide) (by decide +kernel)
    simp [e, h]
theorem mulb {x y X Y : Int} (h1 : 0 ≤ x) (h2 : x ≤ X) (h3 : 0 ≤ y) (h4 : y ≤ Y) : 0 ≤ x * y ∧ x * y ≤ X * Y :=
  ⟨Int.mul_nonneg h1 h3, Int.mul_le_mul h2 h4 h3 (by omega)⟩
theorem cell (ns : List Int) (hl : ns.length ≤ 63) (k : Int) (h0 : 0 ≤ k) (h1 : k ≤ 1000000) : ∃ v : Int, 0 ≤ v ∧ v < 306783379 ∧ mf__law_cell [.scr ns, .lst [.int k]] = .ok (.int v) [.scr ns, .lst [.int (k + 1)]] := by
  have ix : ixD (.lst [.int k]) (.v (.int 0)) = some (.int k) := rfl
  have ix1 : ixD (.lst [.int (k + 1)]) (.v (.int 0)) = some (.int (k + 1)) := rfl
  have ixn : ixN 1 0 = some 0 := rfl
  have m1 : opMul (.v (.int 31)) (.v (.int (k + 1))) = some (.int (31 * (k + 1))) := opMul_ii (small_b (by decide) (by decide)) (small_b (by omega) (by omega))
  have m2 : opMul (.v (.int (31 * (k + 1)))) (.v (.int (k + 1))) = some (.int (31 * (k + 1) * (k + 1))) := opMul_ii (small_b (by omega) (by omega)) (small_b (by omega) (by omega))
  have m3 : opMul (.v (.int 7919)) (.v (.int (k + 1))) = some (.int (7919 * (k + 1))) := opMul_ii (small_b (by decide) (by decide)) (small_b (by omega) (by omega))
  have p18 : opPow (.v (.int 10)) (.v (.int 18)) = some (.int (10 ^ 18)) := opPow_ii (by decide) (by decide) (by decide)
  have mo : ∀ i : Int, opMod (.v (.int i)) (.v (.int 2147483647)) = some (.int (i % 2147483647)) := fun i => opMod_ii (by decide)
  have mo2 : ∀ i : Int, opMod (.v (.int i)) (.v (.int 2147483629)) = some (.int (i % 2147483629)) := fun i => opMod_ii (by decide)
  have mo3 : ∀ i : Int, opMod (.v (.int i)) (.v (.int 306783379)) = some (.int (i % 306783379)) := fun i => opMod_ii (by decide)
  have p5 : ∀ i : Int, opPow (.v (.int (i % 2147483647))) (.v (.int 5)) = some (.int ((i % 2147483647) ^ 5)) := fun i => opPow_ii (by decide) (by decide) (by omega)
  have d7 : ∀ i : Int, opFdiv (.v (.int i)) (.v (.int 7)) = some (.int (i / 7)) := fun i => opFdiv_ii (by decide) (by decide +kernel)
  have fin1 : ∀ b : Int, 0 ≤ (b % 2147483647) ^ 5 % 2147483647 / 7 ∧ (b % 2147483647) ^ 5 % 2147483647 / 7 < 306783379 := fun b => by omega
  have len : bLen [.scr ns] = some (.int ns.length) := rfl
  cases hn : ns with
  | nil =>
    refine ⟨_, (fin1 (31 * (k + 1) * (k + 1) + 7919 * (k + 1))).1, (fin1 _).2, ?_⟩
    subst hn
    simp [mf__law_cell, b__law_cell, ix, ix1, ixn, m1, m2, m3, len, fin, mo, p5, d7]
  | cons n0 ns' =>
    rw [← hn]
    have hp : 0 < ns.length := by rw [hn]; simp
    have hpi : (0 : Int) < ns.length := by omega
    obtain ⟨c, hc⟩ := atI_mod (k := k + 1) hp
    have md : opMod (.v (.int (k + 1))) (.v (.int ns.length)) = some (.int ((k + 1) % ns.length)) := opMod_ii hpi
    have dv : opFdiv (.v (.int (k + 1))) (.v (.int ns.length)) = some (.int ((k + 1) / ns.length)) := opFdiv_ii hpi (log2_63 hl)
    have ixs : ixD (.scr ns) (.v (.int ((k + 1) % ns.length))) = some (.int c) := by simp only [ixD, hc]; rfl
    have q0 : 0 ≤ (k + 1) / (ns.length : Int) := Int.ediv_nonneg (by omega) (by omega)
    have q1 : (k + 1) / (ns.length : Int) ≤ 1000001 := Int.le_trans (Int.ediv_le_self _ (by omega)) (by omega)
    have r0 : 0 ≤ c % 2147483629 := by omega
    have r1 : c % 2147483629 ≤ 2147483629 := by omega
    have m4 : opMul (.v (.int (c % 2147483629))) (.v (.int (1 + (k + 1) / ns.length))) = some (.int (c % 2147483629 * (1 + (k + 1) / ns.length))) := opMul_ii (small_b (by omega) (by omega)) (small_b (by omega) (by omega))
    have rg : rngOf [.int ((k + 1) / ns.length)] = some ((List.range ((k + 1) / (ns.length : Int)).toNat).map fun (k : Nat) => D.int (k : Int)) := by
      have : big ((k + 1) / (ns.length : Int)) = true := by unfold big; simp; omega
      simp [rngOf, this]
    have rest : ∀ b : Prop, True := fun _ => trivial
    by_cases g : 1000000000000000000 ≤ c ∧ (k + 1) / (ns.length : Int) < 60
    · obtain ⟨o', x', hlp⟩ := own_loop (.scr ns) (.lst [.int (k + 1)]) (.int (k + 1)) (.int (31 * (k + 1) * (k + 1) + 7919 * (k + 1))) ((List.range ((k + 1) / (ns.length : Int)).toNat).map fun (k : Nat) => D.int (k : Int)) c none
      by_cases g2 : 0 < o'
      · refine ⟨o' % 306783379, by omega, by omega, ?_⟩
        simp [mf__law_cell, b__law_cell, ix, ix1, ixn, m1, m2, m3, m4, len, fin, mo, mo2, mo3, p5, d7, md, dv, ixs, p18, g.1, g.2, hp, hpi, rg, hlp, g2]
      · refine ⟨_, (fin1 (31 * (k + 1) * (k + 1) + 7919 * (k + 1) + c % 2147483629 * (1 + (k + 1) / ns.length))).1, (fin1 _).2, ?_⟩
        simp [mf__law_cell, b__law_cell, ix, ix1, ixn, m1, m2, m3, m4, len, fin, mo, mo2, mo3, p5, d7, md, dv, ixs, p18, g.1, g.2, hp, hpi, rg, hlp, g2]
    · refine ⟨_, (fin1 (31 * (k + 1) * (k + 1) + 7919 * (k + 1) + c % 2147483629 * (1 + (k + 1) / ns.length))).1, (fin1 _).2, ?_⟩
      by_cases g1 : 1000000000000000000 ≤ c
      · have g2 : ¬ (k + 1) / (ns.length : Int) < 60 := fun z => g ⟨g1, z⟩
        simp [mf__law_cell, b__law_cell, ix, ix1, ixn, m1, m2, m3, m4, len, fin, mo, mo2, mo3, p5, d7, md, dv, ixs, p18, g1, g2, hp, hpi, rg]
      · simp [mf__law_cell, b__law_cell, ix, ix1, ixn, m1, m2, m3, m4, len, fin, mo, mo2, mo3, p5, d7, md, dv, ixs, p18, g1, hp, hpi, rg]
end Gk19
namespace Gk19
open PySem PySem.Spec PyProof.Rows L2 DM
/-- parts as data -/
abbrev PL := List (Int × Int)
def pD (p : Int × Int) : D := .tup [.int p.1, .int p.2]
def pts (ps : PL) : D := .tup (ps.map pD)
def tot (ps : PL) : Int := (ps.map (·.2)).sum
/-- what may be kept: years rise, from 1 to 9,999, amounts above nought -/
inductive Ok : Int → PL → Prop
  | nil {y : Int} : Ok y []
  | cons {y : Int} {p : Int × Int} {ps : PL} : y < p.1 → p.1 ≤ 9999 → 0 < p.2 → Ok p.1 ps → Ok y (p :: ps)
theorem whole_int (i : Int) : mf_is_whole [.int i] = .ok (.bl true) [.int i] := by rw [mf_whole _ "int" rfl]; rfl
theorem from_to (i a b : Int) : mf_is_from_to [.int i, .int a, .int b] = .ok (.bl (decide (a ≤ i) && decide (i ≤ b))) [.int i, .int a, .int b] := by
  by_cases h1 : a ≤ i
  · simp [mf_is_from_to, b_is_from_to, perm, whole_int, fin, h1]
  · simp [mf_is_from_to, b_is_from_to, perm, whole_int, fin, h1]
theorem part_ok {p : Int × Int} (h1 : 0 < p.1) (h2 : p.1 ≤ 9999) (h3 : 0 < p.2) : mf_is_pool_part [pD p] = .ok (.bl true) [pD p] := by
  have t : mf_is_tuple_of [pD p, .int 2, .int 2] = .ok (.bl true) [pD p, .int 2, .int 2] := by
    simp [mf_is_tuple_of, b_is_tuple_of, pD, bIsi, tyN, isTy, bLen, fin]
  have i0 : ixD (pD p) (.v (.int 0)) = some (.int p.1) := rfl
  have i1 : ixD (pD p) (.v (.int 1)) = some (.int p.2) := rfl
  have f : mf_is_from_to [.int p.1, .int 1, .int 9999] = .ok (.bl true) [.int p.1, .int 1, .int 9999] := by
    rw [from_to, decide_eq_true (by omega), decide_eq_true h2]; rfl
  simp [mf_is_pool_part, b_is_pool_part, perm, t, i0, i1, f, whole_int, h3, fin]
theorem Ok.mem {y : Int} {ps : PL} (h : Ok y ps) (hy : 0 ≤ y) : ∀ p ∈ ps, y < p.1 ∧ p.1 ≤ 9999 ∧ 0 < p.2 := by
  induction h with
  | nil => intro p hp; cases hp
  | cons h1 h2 h3 h4 ih =>
    intro p hp
    rcases List.mem_cons.mp hp with e | e
    · subst e; exact ⟨h1, h2, h3⟩
    · have := ih (by omega) p e
      exact ⟨by omega, this.2.1, this.2.2⟩
theorem all_true {ds : List D} (h : ∀ d ∈ ds, d = .bl true) : bAll [.lst ds] = some (.bl true) := by
  have : ∀ ds : List D, (∀ d ∈ ds, d = .bl true) → ∃ bs, asBs ds = some bs ∧ bs.all _root_.id = true := fun ds => by
    induction ds with
    | nil => exact fun _ => ⟨[], rfl, rfl⟩
    | cons d ds ih =>
      intro h
      obtain ⟨bs, h1, h2⟩ := ih fun d hd => h d (List.mem_cons_of_mem _ hd)
      have e := h d List.mem_cons_self
      subst e
      exact ⟨true :: bs, by simp [asBs, h1], by simp [h2]⟩
  obtain ⟨bs, h1, h2⟩ := this ds h
  show (asBs ds).map _ = _
  rw [h1]
  simp [h2]
theorem Ok.next {y : Int} {p q : Int × Int} {ps : PL} (h : Ok y (p :: q :: ps)) : p.1 < q.1 := by
  cases h with
  | cons _ _ _ h => cases h with | cons h _ _ _ => exact h
theorem Ok.tl {y : Int} {p : Int × Int} {ps : PL} (h : Ok y (p :: ps)) : Ok p.1 ps := by
  cases h with | cons _ _ _ h => exact h
theorem pairs_up : ∀ {ps : PL} {y : Int}, Ok y ps → ∀ d ∈ ((ps.map pD).zip (ps.map pD).tail).map DM.pairD, ∃ p q : Int × Int, d = .tup [pD p, pD q] ∧ p.1 < q.1
  | [], _, _, d, h => by simp at h
  | [p], _, _, d, h => by simp at h
  | p :: q :: ps, y, hk, d, h => by
    simp only [List.map_cons, List.tail_cons, List.zip_cons_cons, List.mem_cons] at h
    rcases h with e | e
    · exact ⟨p, q, e, hk.next⟩
    · exact pairs_up (ps := q :: ps) hk.tl d (by simpa using e)
theorem cut1 {ds : List D} : cutL ds (some 1) none = ds.tail := by
  unfold cutL
  rw [show HT.sIx ds.length 0 (some 1) = min 1 ds.length from HT.sIx_nat _ _ 1, HT.sIx_none]
  cases ds with
  | nil => rfl
  | cons d ds =>
    have : min 1 (d :: ds).length = 1 := by simp
    rw [this]
    simp
theorem are_parts {y : Int} {ps : PL} (h : Ok y ps) (hy : 0 ≤ y) (hl : ps.length ≤ 1000) : mf_are_parts [pts ps] = .ok (.bl true) [pts ps] := by
  have isi : bIsi [pts ps, .v (.ty "tuple")] = some (.bl true) := rfl
  obtain ⟨xs, hx, hlx, hpx⟩ := lcL_ex (own := [1]) (ρ0 := [some (pts ps), none, none]) (ρ := [some (pts ps), none, none]) (mt := gNm 1) (mc := tYesM) (me := eCall mf_is_pool_part [0] (aCons (eVar 1) (aNil)) (aNil)) (P := fun x => x = .bl true) (ds := ps.map pD) (acc := []) (by
    intro d hd
    obtain ⟨p, hp, rfl⟩ := List.mem_map.mp hd
    obtain ⟨a, b, c⟩ := h.mem hy p hp
    refine ⟨[some (pts ps), some (pD p), none], .bl true, by simp, by simp, ?_, by simp [wipeE], rfl⟩
    simp [perm, part_ok (p := p) (by omega) b c])
  have it : itemsOf (pts ps) = some (ps.map pD) := rfl
  have sl : slX (pts ps) (some 1) none = some (.tup (ps.map pD).tail) := by
    show some (D.tup (cutL (ps.map pD) (some 1) none)) = _
    rw [cut1]
  have zo : zipOf [pts ps, .tup (ps.map pD).tail] = some (((ps.map pD).zip (ps.map pD).tail).map DM.pairD) := rfl
  obtain ⟨zs, hz, hlz, hpz⟩ := lcL_ex (own := [1, 2]) (ρ0 := [some (pts ps), none, none]) (ρ := [some (pts ps), none, none]) (mt := gTupM 2 (gsCons (gNm 1) (gsCons (gNm 2) gsNil))) (mc := tYesM) (me := eCmp opLt (eIx (eVar 1) (eK (.int 0))) (eIx (eVar 2) (eK (.int 0)))) (P := fun x => x = .bl true) (ds := ((ps.map pD).zip (ps.map pD).tail).map DM.pairD) (acc := []) (by
    intro d hd
    obtain ⟨p, q, rfl, hpq⟩ := pairs_up h d hd
    have i0 : ∀ p, ixD (pD p) (.v (.int 0)) = some (.int p.1) := fun _ => rfl
    refine ⟨[some (pts ps), some (pD p), some (pD q)], .bl true, by simp, by simp, ?_, by simp [wipeE], rfl⟩
    simp [i0, hpq])
  rw [List.nil_append] at hx hz
  have l1 : (ps.map pD).length ≤ 16777216 := by simp; omega
  have l2 : (((ps.map pD).zip (ps.map pD).tail).map DM.pairD).length ≤ 16777216 := by simp; omega
  have b1 := all_true hpx
  have b2 := all_true hpz
  generalize hA : ps.map pD = A at *
  generalize hB : (A.zip A.tail).map DM.pairD = B at *
  simp [mf_are_parts, b_are_parts, isi, it, l1, wipeE, hx, restE, b1, sl, zo, l2, hz, b2, fin]
end Gk19
namespace Gk19
open PySem PySem.Spec PyProof.Rows L2 DM
theorem tgt2 (i j : Nat) (p : Int × Int) (r : OEnv) (h1 : i < r.length) (h2 : j < r.length) : gTupM 2 (gsCons (gNm i) (gsCons (gNm j) gsNil)) (pD p) r = some ((r.set i (some (.int p.1))).set j (some (.int p.2))) := by
  simp [pD, h1, h2]
theorem all_kept (ps : PL) (hl : ps.length ≤ 1000) : mf_all_kept [pts ps] = .ok (.int (tot ps)) [pts ps] := by
  have lc := lcL_pure (own := [1, 2]) (ρ0 := [some (pts ps), none, none]) (ρ := [some (pts ps), none, none]) (mt := gTupM 2 (gsCons (gNm 1) (gsCons (gNm 2) gsNil))) (mc := tYesM) (me := eVar 2) (p := fun _ => true) (f := fun d => match d with | .tup [_, y] => y | _ => .non) (ds := ps.map pD) (acc := []) (by
    intro d hd
    obtain ⟨p, hp, rfl⟩ := List.mem_map.mp hd
    exact ⟨[some (pts ps), some (.int p.1), some (.int p.2)], by rw [tgt2 _ _ _ _ (by simp) (by simp)]; rfl, by simp, fun _ => by simp [pD], by simp [wipeE]⟩)
  have e : ((ps.map pD).filter fun _ => true).map (fun d => match d with | .tup [_, y] => y | _ => D.non) = ps.map fun p => D.int p.2 := by
    rw [List.filter_eq_self.mpr (by simp), List.map_map]; rfl
  rw [e, List.nil_append] at lc
  have it : itemsOf (pts ps) = some (ps.map pD) := rfl
  have l1 : (ps.map pD).length ≤ 16777216 := by simp; omega
  have bs : bSum [.lst (ps.map fun p => D.int p.2)] = some (.int (tot ps)) := bSum_map _ ps
  generalize (ps.map fun p => D.int p.2) = B at *
  generalize ps.map pD = A at *
  simp [mf_all_kept, b_all_kept, it, l1, wipeE, lc, restE, bs, fin]
def alive (ps : PL) (y l : Int) : PL := ps.filter fun p => decide (y ≤ p.1 + l)
theorem filt (q : D → Bool) (g : Int × Int → Bool) (h : ∀ p, q (pD p) = g p) (ps : PL) : (ps.map pD).filter q = (ps.filter g).map pD := by
  rw [List.filter_map]
  refine congrArg _ (List.filter_congr fun p _ => h p)
theorem parts_alive (ps : PL) (y l : Int) (hl : ps.length ≤ 1000) : mf_parts_alive [pts ps, .int y, .int l] = .ok (pts (alive ps y l)) [pts ps, .int y, .int l] := by
  have i0 : ∀ p, ixD (pD p) (.v (.int 0)) = some (.int p.1) := fun _ => rfl
  have lc := lcL_pure (own := [3]) (ρ0 := [some (pts ps), some (.int y), some (.int l), none]) (ρ := [some (pts ps), some (.int y), some (.int l), none]) (mt := gNm 3) (mc := tCp opGe (eOp opAdd (eIx (eVar 3) (eK (.int 0))) (eVar 2)) (eVar 1)) (me := eVar 3) (p := fun d => match d with | .tup (.v (.int a) :: _) => decide (y ≤ a + l) | _ => false) (f := fun d => d) (ds := ps.map pD) (acc := []) (by
    intro d hd
    obtain ⟨p, hp, rfl⟩ := List.mem_map.mp hd
    refine ⟨[some (pts ps), some (.int y), some (.int l), some (pD p)], by simp, ?_, fun _ => by simp, by simp [wipeE]⟩
    simp [i0]
    rfl)
  rw [List.map_id', filt _ (fun p => decide (y ≤ p.1 + l)) (fun _ => rfl), List.nil_append] at lc
  have it : itemsOf (pts ps) = some (ps.map pD) := rfl
  have l1 : (ps.map pD).length ≤ 16777216 := by simp; omega
  have tu : tupD (.lst ((ps.filter fun p => decide (y ≤ p.1 + l)).map pD)) = some (pts (alive ps y l)) := rfl
  generalize ((ps.filter fun p => decide (y ≤ p.1 + l)).map pD) = B at *
  generalize ps.map pD = A at *
  simp [mf_parts_alive, b_parts_alive, it, l1, wipeE, lc, restE, tu, fin]
/-- what is left of parts where u is used, the first ones first -/
def wo : Int → PL → PL
  | _, [] => []
  | u, p :: ps => (if (if u < p.2 then u else p.2) < p.2 then [(p.1, p.2 - (if u < p.2 then u else p.2))] else []) ++ wo (u - (if u < p.2 then u else p.2)) ps
theorem wo_loop (a0 : D) : ∀ (ps qs : PL) (u : Int) (x3 x4 x5 : Option D), ps.length + qs.length ≤ 10000 → ∃ u' y3 y4 y5, forL (gTupM 2 (gsCons (gNm 3) (gsCons (gNm 4) gsNil))) (sSeq (sSet 5 (eB bMin (aCons (eVar 4) (aCons (eVar 1) (aNil))))) (sSeq (sAug 1 opSub (eVar 5)) (sSeq (sIf (tCp opGt (eVar 4) (eVar 5)) (sSeq (sExp (eMut 2 mAppend (aCons (eTup (aCons (eVar 3) (aCons (eOp opSub (eVar 4) (eVar 5)) (aNil)))) (aNil)))) (sNil)) (sNil)) (sNil))))
    (ps.map pD) [some a0, some (.int u), some (.lst (qs.map pD)), x3, x4, x5] = .ok .nx [some a0, some (.int u'), some (.lst ((qs ++ wo u ps).map pD)), y3, y4, y5]
  | [], qs, u, x3, x4, x5, _ => ⟨u, x3, x4, x5, by simp [forL_nil, wo]⟩
  | p :: ps, qs, u, x3, x4, x5, h => by
    simp only [List.length_cons] at h
    have bm : bMin [.int p.2, .int u] = some (.int (if u < p.2 then u else p.2)) := rfl
    generalize ht : (if u < p.2 then u else p.2) = t at *
    have e1 : wo u (p :: ps) = (if t < p.2 then [(p.1, p.2 - t)] else []) ++ wo (u - t) ps := by
      show (if (if u < p.2 then u else p.2) < p.2 then _ else _) ++ _ = _
      rw [ht]
    by_cases g : t < p.2
    · obtain ⟨u', y3, y4, y5, e⟩ := wo_loop a0 ps (qs ++ [(p.1, p.2 - t)]) (u - t) (some (.int p.1)) (some (.int p.2)) (some (.int t)) (by simp; omega)
      refine ⟨u', y3, y4, y5, ?_⟩
      have ma : mAppend (qs.map pD) [.tup [.int p.1, .int (p.2 - t)]] = some (.non, (qs ++ [(p.1, p.2 - t)]).map pD) := by
        rw [mAppend_ok (by simp; omega)]; simp [pD]
      rw [e1, if_pos g]
      rw [List.append_assoc] at e
      rw [List.map_cons, forL_cons, tgt2 _ _ _ _ (by simp) (by simp)]
      generalize (qs ++ [(p.1, p.2 - t)]).map pD = Q at *
      generalize (qs ++ ([(p.1, p.2 - t)] ++ wo (u - t) ps)).map pD = R at *
      simp [bm, g, ma, e]
    · obtain ⟨u', y3, y4, y5, e⟩ := wo_loop a0 ps qs (u - t) (some (.int p.1)) (some (.int p.2)) (some (.int t)) (by omega)
      refine ⟨u', y3, y4, y5, ?_⟩
      rw [e1, if_neg g, List.nil_append]
      rw [List.map_cons, forL_cons, tgt2 _ _ _ _ (by simp) (by simp)]
      simp [bm, g, e]
theorem parts_without (ps : PL) (u : Int) (hl : ps.length ≤ 1000) : mf_parts_without [pts ps, .int u] = .ok (pts (wo u ps)) [pts ps, .int u] := by
  obtain ⟨u', y3, y4, y5, e⟩ := wo_loop (pts ps) ps [] u none none none (by simp; omega)
  have it : itemsOf (pts ps) = some (ps.map pD) := rfl
  have tu : tupD (.lst (([] ++ wo u ps).map pD)) = some (pts (wo u ps)) := by rw [List.nil_append]; rfl
  have e2 : ([] : PL).map pD = [] := rfl
  rw [e2] at e
  generalize (([] ++ wo u ps).map pD) = B at *
  generalize ps.map pD = A at *
  simp [mf_parts_without, b_parts_without, it, e, tu, fin]
def used (ps : PL) (w : Int) : Int := if (if tot ps < w then tot ps else w) > 0 then (if tot ps < w then tot ps else w) else 0
theorem used_of (ps : PL) (w : Int) (hl : ps.length ≤ 1000) : mf_used_of [pts ps, .int w] = .ok (.int (used ps w)) [pts ps, .int w] := by
  have b1 : bMin [.int w, .int (tot ps)] = some (.int (if tot ps < w then tot ps else w)) := rfl
  have b2 : bMax [.int 0, .int (if tot ps < w then tot ps else w)] = some (.int (used ps w)) := rfl
  generalize (if tot ps < w then tot ps else w) = z at *
  simp [mf_used_of, b_used_of, perm, all_kept ps hl, b1, b2, fin]
def pos (a : Int) : Int := if a > 0 then a else 0
/-- what a year tells -/
def year (ps : PL) (y l w a : Int) : D := .tup [.int (tot ps - tot (alive ps y l)), .int (used (alive ps y l) w), .int (pos a), pts (wo (used (alive ps y l) w) (alive ps y l) ++ if pos a > 0 then [(y, pos a)] else [])]
theorem alive_len (ps : PL) (y l : Int) : (alive ps y l).length ≤ ps.length := List.length_filter_le _ _
theorem wo_len : ∀ (u : Int) (ps : PL), (wo u ps).length ≤ ps.length
  | _, [] => Nat.le_refl _
  | u, p :: ps => by
    unfold wo
    generalize (if u < p.2 then u else p.2) = t
    have := wo_len (u - t) ps
    rw [List.length_append, List.length_cons]
    split <;> simp <;> omega
theorem own_year (ps : PL) (y l w a : Int) (hl : ps.length ≤ 900) : mf_own_pool_year [pts ps, .int y, .int l, .int w, .int a] = .ok (year ps y l w a) [pts ps, .int y, .int l, .int w, .int a] := by
  have h1 := alive_len ps y l
  have h2 := wo_len (used (alive ps y l) w) (alive ps y l)
  have pa := parts_alive ps y l (by omega)
  have uo := used_of (alive ps y l) w (by omega)
  have ak := all_kept ps (by omega)
  have ak2 := all_kept (alive ps y l) (by omega)
  have pw := parts_without (alive ps y l) (used (alive ps y l) w) (by omega)
  have bm : bMax [.int 0, .int a] = some (.int (pos a)) := rfl
  unfold year
  generalize alive ps y l = al at *
  generalize used al w = u at *
  generalize pos a = f at *
  by_cases g : 0 < f
  · have ad : opAdd (pts (wo u al)) (.tup [.tup [.int y, .int f]]) = some (pts (wo u al ++ [(y, f)])) := by
      show opAdd (.tup _) _ = _
      rw [opAdd_tt (by simp; omega)]; simp [pts, pD]
    simp [mf_own_pool_year, b_own_pool_year, perm, pa, uo, bm, pw, ak, ak2, g, ad, fin]
  · simp [mf_own_pool_year, b_own_pool_year, perm, pa, uo, bm, pw, ak, ak2, g, fin]
theorem shp_pts (ps : PL) : shp (pts ps) = true := by
  have h : ∀ ps : PL, plainAll (ps.map pD) = true ∧ PyData.canLayAll0 (pyAll (ps.map pD)) = true ∧ PyData.depthAll (pyAll (ps.map pD)) ≤ 1 := fun ps => by
    induction ps with
    | nil => exact ⟨rfl, by simp [pyAll, PyData.canLayAll0], by simp [pyAll, PyData.depthAll]⟩
    | cons w ws ih =>
      obtain ⟨a, b, c⟩ := ih
      refine ⟨?_, ?_, ?_⟩
      · show ((pD w).plain && plainAll (ws.map pD)) = true
        rw [a]; rfl
      · simp [pyAll, D.py, pD, PyData.canLayAll0, PyData.canLay0, b]
      · simp [pyAll, D.py, pD, PyData.depthAll, PyData.depth]; omega
  obtain ⟨a, b, c⟩ := h ps
  unfold shp SeqAt.shaped
  have e1 : (pts ps).plain = true := a
  rw [e1]
  simp [pts, D.py, PyData.canLay0, PyData.depth, b]
  omega
theorem ne_nil (ps : PL) : opNe (pts ps) (.tup []) = some (!ps.isEmpty) := by
  have h2 : shp (.tup []) = true := by decide +kernel
  have : opEq (pts ps) (.tup []) = some ps.isEmpty := by
    show (if shp (pts ps) = true ∧ shp (.tup []) = true then some (PyData.eqv (pts ps).py (D.tup []).py) else none) = _
    rw [if_pos ⟨shp_pts ps, h2⟩]
    cases ps with
    | nil => simp [pts, D.py, pyAll, PyData.eqv, PyData.eqvAll]
    | cons w ws => simp [pts, D.py, pyAll, PyData.eqv, PyData.eqvAll]
  unfold opNe
  rw [this]; rfl
theorem last_ix {ps : PL} (p : Int × Int) : ixD (pts (ps ++ [p])) (.v (.int (-1))) = some (pD p) := by
  show atI ((ps ++ [p]).map pD) (-1) = _
  rw [List.map_append]
  exact atI_last _ _
theorem pool_year {y0 : Int} {ps : PL} (h : Ok y0 ps) (h0 : 0 ≤ y0) (hl : ps.length ≤ 900) {y l w a : Int} (hy : 1 ≤ y ∧ y ≤ 9999) (hl2 : 1 ≤ l ∧ l ≤ 20) (hlast : ∀ p ∈ ps, p.1 < y) : mf_pool_year [pts ps, .int y, .int l, .int w, .int a] = .ok (year ps y l w a) [pts ps, .int y, .int l, .int w, .int a] := by
  have ap := are_parts h h0 (by omega)
  have f1 : mf_is_from_to [.int y, .int 1, .int 9999] = .ok (.bl true) [.int y, .int 1, .int 9999] := by
    rw [from_to, decide_eq_true hy.1, decide_eq_true hy.2]; rfl
  have f2 : mf_is_from_to [.int l, .int 1, .int 20] = .ok (.bl true) [.int l, .int 1, .int 20] := by
    rw [from_to, decide_eq_true hl2.1, decide_eq_true hl2.2]; rfl
  have oy := own_year ps y l w a hl
  have ne := ne_nil ps
  rcases List.eq_nil_or_concat ps with e | ⟨qs, p, e⟩
  · have em : ps.isEmpty = true := by rw [e]; rfl
    rw [em] at ne
    simp [mf_pool_year, b_pool_year, perm, ap, f1, f2, ne, whole_int, oy, fin]
  · have em : ps.isEmpty = false := by rw [e]; simp
    rw [em] at ne
    have li : ixD (pts ps) (.v (.int (-1))) = some (pD p) := by rw [e, List.concat_eq_append]; exact last_ix p
    have i0 : ixD (pD p) (.v (.int 0)) = some (.int p.1) := rfl
    have hp := hlast p (by rw [e]; simp)
    have hp2 : ¬ y ≤ p.1 := by omega
    simp [mf_pool_year, b_pool_year, perm, ap, f1, f2, ne, li, i0, hp2, whole_int, oy, fin]
end Gk19
namespace Gk19
open PySem PySem.Spec PyProof.Rows L2 DM
theorem tot_split (q : Int × Int → Bool) : ∀ ps : PL, tot (ps.filter q) + tot (ps.filter fun p => !q p) = tot ps
  | [] => rfl
  | p :: ps => by
    have ih := tot_split q ps
    unfold tot at *
    cases h : q p <;> simp [h] <;> omega
/-- the law's own going -/
def gl (u : Int) : Int → PL → PL
  | _, [] => []
  | ah, p :: ps => (p.1, p.2 - pos (if u - ah < p.2 then u - ah else p.2)) :: gl u (ah + p.2) ps
theorem gl_wo (u : Int) : ∀ (ps : PL) (ah : Int), (∀ p ∈ ps, 0 < p.2) → (gl u ah ps).filter (fun p => decide (0 < p.2)) = wo (pos (u - ah)) ps
  | [], _, _ => rfl
  | p :: ps, ah, h => by
    have hp := h p List.mem_cons_self
    have ih := gl_wo u ps (ah + p.2) fun q hq => h q (List.mem_cons_of_mem _ hq)
    have e1 : pos (if u - ah < p.2 then u - ah else p.2) = (if pos (u - ah) < p.2 then pos (u - ah) else p.2) := by
      unfold pos
      repeat' split
      all_goals omega
    have e2 : pos (u - (ah + p.2)) = pos (u - ah) - (if pos (u - ah) < p.2 then pos (u - ah) else p.2) := by
      unfold pos
      repeat' split
      all_goals omega
    unfold gl wo
    rw [e1]
    rw [e2] at ih
    generalize (if pos (u - ah) < p.2 then pos (u - ah) else p.2) = t at *
    by_cases g : t < p.2
    · rw [if_pos g, List.filter_cons_of_pos (by simp; omega), ih]; rfl
    · rw [if_neg g, List.filter_cons_of_neg (by simp; omega), ih]; rfl
theorem du_loop (a0 a1 a2 a3 a4 a5 a6 : D) (u : Int) : ∀ (ps qs : PL) (ah : Int) (x10 x11 x12 x13 : Option D), ps.length + qs.length ≤ 10000 → ∃ ah' y10 y11 y12, forL (gTupM 2 (gsCons (gNm 10) (gsCons (gNm 11) gsNil))) (sSeq (sSet 12 (eB bMax (aCons (eK (.int 0)) (aCons (eB bMin (aCons (eVar 11) (aCons (eOp opSub (eVar 7) (eVar 9)) (aNil)))) (aNil))))) (sSeq (sExp (eMut 8 mAppend (aCons (eTup (aCons (eVar 10) (aCons (eOp opSub (eVar 11) (eVar 12)) (aNil)))) (aNil)))) (sSeq (sSet 9 (eOp opAdd (eVar 9) (eVar 11))) (sNil))))
    (ps.map pD) [some a0, some a1, some a2, some a3, some a4, some a5, some a6, some (.int u), some (.lst (qs.map pD)), some (.int ah), x10, x11, x12, x13] = .ok .nx [some a0, some a1, some a2, some a3, some a4, some a5, some a6, some (.int u), some (.lst ((qs ++ gl u ah ps).map pD)), some (.int ah'), y10, y11, y12, x13]
  | [], qs, ah, x10, x11, x12, x13, _ => ⟨ah, x10, x11, x12, by simp [forL_nil, gl]⟩
  | p :: ps, qs, ah, x10, x11, x12, x13, h => by
    simp only [List.length_cons] at h
    have bm : bMin [.int p.2, .int (u - ah)] = some (.int (if u - ah < p.2 then u - ah else p.2)) := rfl
    have bx : bMax [.int 0, .int (if u - ah < p.2 then u - ah else p.2)] = some (.int (pos (if u - ah < p.2 then u - ah else p.2))) := rfl
    have e1 : gl u ah (p :: ps) = (p.1, p.2 - pos (if u - ah < p.2 then u - ah else p.2)) :: gl u (ah + p.2) ps := rfl
    generalize (if u - ah < p.2 then u - ah else p.2) = z at *
    generalize pos z = t at *
    obtain ⟨ah', y10, y11, y12, e⟩ := du_loop a0 a1 a2 a3 a4 a5 a6 u ps (qs ++ [(p.1, p.2 - t)]) (ah + p.2) (some (.int p.1)) (some (.int p.2)) (some (.int t)) x13 (by simp; omega)
    refine ⟨ah', y10, y11, y12, ?_⟩
    have ma : mAppend (qs.map pD) [.tup [.int p.1, .int (p.2 - t)]] = some (.non, (qs ++ [(p.1, p.2 - t)]).map pD) := by
      rw [mAppend_ok (by simp; omega)]; simp [pD]
    rw [e1]
    rw [List.append_assoc, List.singleton_append] at e
    rw [List.map_cons, forL_cons, tgt2 _ _ _ _ (by simp) (by simp)]
    generalize (qs ++ [(p.1, p.2 - t)]).map pD = Q at *
    generalize (qs ++ ((p.1, p.2 - t) :: gl u (ah + p.2) ps)).map pD = R at *
    simp [bm, bx, ma, e]
theorem due (ps : PL) (y l w a : Int) (hl : ps.length ≤ 900) (hp : ∀ p ∈ ps, 0 < p.2) : mf__law_due [pts ps, .int y, .int l, .int w, .int a] = .ok (year ps y l w a) [pts ps, .int y, .int l, .int w, .int a] := by
  have h1 := alive_len ps y l
  have it : itemsOf (pts ps) = some (ps.map pD) := rfl
  have l1 : (ps.map pD).length ≤ 16777216 := by simp; omega
  -- lost
  have lc1 := lcL_pure (own := [10, 11]) (ρ0 := [some (pts ps), some (.int y), some (.int l), some (.int w), some (.int a), none, none, none, none, none, none, none, none, none]) (ρ := [some (pts ps), some (.int y), some (.int l), some (.int w), some (.int a), none, none, none, none, none, none, none, none, none]) (mt := gTupM 2 (gsCons (gNm 10) (gsCons (gNm 11) gsNil))) (mc := tCp opLt (eOp opAdd (eVar 10) (eVar 2)) (eVar 1)) (me := eVar 11)
    (p := fun d => match d with | .tup (.v (.int a) :: _) => decide (a + l < y) | _ => false) (f := fun d => match d with | .tup [_, y] => y | _ => .non) (ds := ps.map pD) (acc := []) (by
    intro d hd
    obtain ⟨p, hp, rfl⟩ := List.mem_map.mp hd
    exact ⟨[some (pts ps), some (.int y), some (.int l), some (.int w), some (.int a), none, none, none, none, none, some (.int p.1), some (.int p.2), none, none], by rw [tgt2 _ _ _ _ (by simp) (by simp)]; rfl, by simp; rfl, fun _ => by simp [pD], by simp [wipeE]⟩)
  rw [filt _ (fun p => decide (p.1 + l < y)) (fun _ => rfl), List.nil_append, List.map_map] at lc1
  have e1 : ((ps.filter fun p => decide (p.1 + l < y)).map ((fun d => match d with | .tup [_, y] => y | _ => D.non) ∘ pD)) = (ps.filter fun p => decide (p.1 + l < y)).map fun p => D.int p.2 := rfl
  rw [e1] at lc1
  have s1 : bSum [.lst ((ps.filter fun p => decide (p.1 + l < y)).map fun p => D.int p.2)] = some (.int (tot ps - tot (alive ps y l))) := by
    rw [bSum_map]
    have := tot_split (fun p => decide (y ≤ p.1 + l)) ps
    have e : (ps.filter fun p => !decide (y ≤ p.1 + l)) = ps.filter fun p => decide (p.1 + l < y) := List.filter_congr fun p _ => by
      rw [← decide_not]
      exact decide_eq_decide.mpr (by omega)
    rw [e] at this
    show some (V.int (tot _)) = _
    refine congrArg _ (congrArg _ ?_)
    unfold alive
    omega
  -- alive
  have lc2 : ∀ lost : Int, lcL [10, 11] [some (pts ps), some (.int y), some (.int l), some (.int w), some (.int a), some (.int lost), none, none, none, none, none, none, none, none] (gTupM 2 (gsCons (gNm 10) (gsCons (gNm 11) gsNil))) (tCp opGe (eOp opAdd (eVar 10) (eVar 2)) (eVar 1)) (eTup (aCons (eVar 10) (aCons (eVar 11) (aNil)))) [] (ps.map pD) [some (pts ps), some (.int y), some (.int l), some (.int w), some (.int a), some (.int lost), none, none, none, none, none, none, none, none] = .ok (.lst ((alive ps y l).map pD)) (restE [10, 11] [some (pts ps), some (.int y), some (.int l), some (.int w), some (.int a), some (.int lost), none, none, none, none, none, none, none, none] [some (pts ps), some (.int y), some (.int l), some (.int w), some (.int a), some (.int lost), none, none, none, none, none, none, none, none]) := fun lost => by
    rw [lcL_pure (p := fun d => match d with | .tup (.v (.int a) :: _) => decide (y ≤ a + l) | _ => false) (f := fun d => d) (by
      intro d hd
      obtain ⟨p, hp, rfl⟩ := List.mem_map.mp hd
      exact ⟨[some (pts ps), some (.int y), some (.int l), some (.int w), some (.int a), some (.int lost), none, none, none, none, some (.int p.1), some (.int p.2), none, none], by rw [tgt2 _ _ _ _ (by simp) (by simp)]; rfl, by simp; rfl, fun _ => by simp [pD], by simp [wipeE]⟩)]
    rw [List.map_id', filt _ (fun p => decide (y ≤ p.1 + l)) (fun _ => rfl), List.nil_append]
    rfl
  -- used
  have lc3 : ∀ lost : Int, lcL [10, 11] [some (pts ps), some (.int y), some (.int l), some (.int w), some (.int a), some (.int lost), some (.lst ((alive ps y l).map pD)), none, none, none, none, none, none, none] (gTupM 2 (gsCons (gNm 10) (gsCons (gNm 11) gsNil))) tYesM (eVar 11) [] ((alive ps y l).map pD) [some (pts ps), some (.int y), some (.int l), some (.int w), some (.int a), some (.int lost), some (.lst ((alive ps y l).map pD)), none, none, none, none, none, none, none] = .ok (.lst ((alive ps y l).map fun p => D.int p.2)) (restE [10, 11] [some (pts ps), some (.int y), some (.int l), some (.int w), some (.int a), some (.int lost), some (.lst ((alive ps y l).map pD)), none, none, none, none, none, none, none] [some (pts ps), some (.int y), some (.int l), some (.int w), some (.int a), some (.int lost), some (.lst ((alive ps y l).map pD)), none, none, none, none, none, none, none]) := fun lost => by
    rw [lcL_pure (p := fun _ => true) (f := fun d => match d with | .tup [_, y] => y | _ => .non) (by
      intro d hd
      obtain ⟨p, hp, rfl⟩ := List.mem_map.mp hd
      exact ⟨[some (pts ps), some (.int y), some (.int l), some (.int w), some (.int a), some (.int lost), some (.lst ((alive ps y l).map pD)), none, none, none, some (.int p.1), some (.int p.2), none, none], by rw [tgt2 _ _ _ _ (by simp) (by simp)]; rfl, by simp, fun _ => by simp [pD], by simp [wipeE]⟩)]
    rw [List.filter_eq_self.mpr (by simp), List.map_map, List.nil_append]
    rfl
  have s3 : bSum [.lst ((alive ps y l).map fun p => D.int p.2)] = some (.int (tot (alive ps y l))) := bSum_map _ _
  have b1 : bMin [.int w, .int (tot (alive ps y l))] = some (.int (if tot (alive ps y l) < w then tot (alive ps y l) else w)) := rfl
  have b2 : bMax [.int 0, .int (if tot (alive ps y l) < w then tot (alive ps y l) else w)] = some (.int (used (alive ps y l) w)) := rfl
  have bm : bMax [.int 0, .int a] = some (.int (pos a)) := rfl
  have hal : ∀ p ∈ alive ps y l, 0 < p.2 := fun p h => hp p (List.mem_filter.mp h).1
  have up : pos (used (alive ps y l) w - 0) = used (alive ps y l) w := by
    unfold pos used
    repeat' split
    all_goals omega
  have gw := gl_wo (used (alive ps y l) w) (alive ps y l) 0 hal
  rw [up] at gw
  have l2 : ((alive ps y l).map pD).length ≤ 16777216 := by simp; omega
  have glen : ∀ (u : Int) (ps : PL) (ah : Int), (gl u ah ps).length = ps.length := fun u ps => by
    induction ps with
    | nil => intro _; rfl
    | cons p ps ih => intro ah; show (gl u (ah + p.2) ps).length + 1 = _; rw [ih]; rfl
  -- the end
  have fl : ∀ (qs : PL) (r : OEnv), r.length = 14 → (∀ q : D, (gNm 13 q) r = some (r.set 13 (some q))) → r[13]? = some none → lcL [13] r (gNm 13) (tCp opGt (eIx (eVar 13) (eK (.int 1))) (eK (.int 0))) (eVar 13) [] (qs.map pD) r = .ok (.lst ((qs.filter fun p => decide (0 < p.2)).map pD)) (restE [13] r r) := fun qs r hr hg hn => by
    have i1 : ∀ p, ixD (pD p) (.v (.int 1)) = some (.int p.2) := fun _ => rfl
    rw [lcL_pure (p := fun d => match d with | .tup [_, .v (.int a)] => decide (0 < a) | _ => false) (f := fun d => d) (by
      intro d hd
      obtain ⟨p, hp, rfl⟩ := List.mem_map.mp hd
      have g13 : (r.set 13 (some (pD p)))[13]? = some (some (pD p)) := List.getElem?_set_self (by omega)
      refine ⟨r.set 13 (some (pD p)), hg _, ?_, fun _ => ?_, ?_⟩
      · simp [g13, i1]; rfl
      · simp [g13]
      · show (r.set 13 (some (pD p))).set 13 none = r
        rw [List.set_set]
        apply List.ext_getElem?
        intro j
        by_cases hj : 13 = j
        · subst hj; rw [List.getElem?_set_self (by omega), hn]
        · rw [List.getElem?_set_ne hj])]
    rw [List.map_id', filt _ (fun p => decide (0 < p.2)) (fun _ => rfl), List.nil_append]
  have en : ∀ lost u : Int, u = used (alive ps y l) w → ∃ ah' y10 y11 y12, forL (gTupM 2 (gsCons (gNm 10) (gsCons (gNm 11) gsNil))) (sSeq (sSet 12 (eB bMax (aCons (eK (.int 0)) (aCons (eB bMin (aCons (eVar 11) (aCons (eOp opSub (eVar 7) (eVar 9)) (aNil)))) (aNil))))) (sSeq (sExp (eMut 8 mAppend (aCons (eTup (aCons (eVar 10) (aCons (eOp opSub (eVar 11) (eVar 12)) (aNil)))) (aNil)))) (sSeq (sSet 9 (eOp opAdd (eVar 9) (eVar 11))) (sNil))))
      ((alive ps y l).map pD) [some (pts ps), some (.int y), some (.int l), some (.int w), some (.int a), some (.int lost), some (.lst ((alive ps y l).map pD)), some (.int u), some (.lst []), some (.int 0), none, none, none, none] = .ok .nx [some (pts ps), some (.int y), some (.int l), some (.int w), some (.int a), some (.int lost), some (.lst ((alive ps y l).map pD)), some (.int u), some (.lst ((gl u 0 (alive ps y l)).map pD)), some (.int ah'), y10, y11, y12, none] := fun lost u _ => by
    obtain ⟨ah', y10, y11, y12, e⟩ := du_loop (pts ps) (.int y) (.int l) (.int w) (.int a) (.int lost) (.lst ((alive ps y l).map pD)) u (alive ps y l) [] 0 none none none none (by simp; omega)
    exact ⟨ah', y10, y11, y12, e⟩
  obtain ⟨ah', y10, y11, y12, e5⟩ := en (tot ps - tot (alive ps y l)) _ rfl
  have gls := glen (used (alive ps y l) w) (alive ps y l) 0
  have ad : opAdd (.lst ((gl (used (alive ps y l) w) 0 (alive ps y l)).map pD)) (.lst [.tup [.int y, .int (pos a)]]) = some (.lst ((gl (used (alive ps y l) w) 0 (alive ps y l) ++ [(y, pos a)]).map pD)) := by
    rw [opAdd_ll (by simp; omega)]; simp [pD]
  have l3 : ((gl (used (alive ps y l) w) 0 (alive ps y l) ++ [(y, pos a)]).map pD).length ≤ 16777216 := by simp; omega
  have lf : (gl (used (alive ps y l) w) 0 (alive ps y l) ++ [(y, pos a)]).filter (fun p => decide (0 < p.2)) = wo (used (alive ps y l) w) (alive ps y l) ++ (if pos a > 0 then [(y, pos a)] else []) := by
    rw [List.filter_append, gw]
    congr 1
    by_cases g : 0 < pos a
    · rw [if_pos g, List.filter_cons_of_pos (by simpa using g)]; rfl
    · rw [if_neg g, List.filter_cons_of_neg (by simpa using g)]; rfl
  have f2 := fl (gl (used (alive ps y l) w) 0 (alive ps y l) ++ [(y, pos a)]) [some (pts ps), some (.int y), some (.int l), some (.int w), some (.int a), some (.int (tot ps - tot (alive ps y l))), some (.lst ((alive ps y l).map pD)), some (.int (used (alive ps y l) w)), some (.lst ((gl (used (alive ps y l) w) 0 (alive ps y l)).map pD)), some (.int ah'), y10, y11, y12, none] rfl (fun _ => by simp) rfl
  rw [lf] at f2
  have tu : tupD (.lst ((wo (used (alive ps y l) w) (alive ps y l) ++ (if pos a > 0 then [(y, pos a)] else [])).map pD)) = some (pts (wo (used (alive ps y l) w) (alive ps y l) ++ (if pos a > 0 then [(y, pos a)] else []))) := rfl
  unfold year
  have lc2' := lc2 (tot ps - tot (alive ps y l))
  have lc3' := lc3 (tot ps - tot (alive ps y l))
  clear lc2 lc3 fl en lf gw gls glen hal up h1 hp
  generalize tot ps - tot (alive ps y l) = lost at *
  generalize pts (wo (used (alive ps y l) w) (alive ps y l) ++ (if pos a > 0 then [(y, pos a)] else [])) = R at *
  generalize (wo (used (alive ps y l) w) (alive ps y l) ++ (if pos a > 0 then [(y, pos a)] else [])).map pD = RL at *
  generalize (gl (used (alive ps y l) w) 0 (alive ps y l) ++ [(y, pos a)]).map pD = GL2 at *
  generalize (gl (used (alive ps y l) w) 0 (alive ps y l)).map pD = GL at *
  generalize used (alive ps y l) w = u at *
  generalize (if tot (alive ps y l) < w then tot (alive ps y l) else w) = z at *
  generalize tot (alive ps y l) = ta at *
  generalize ((alive ps y l).map fun p => D.int p.2) = AI at *
  generalize (alive ps y l).map pD = AL at *
  generalize ((ps.filter fun p => decide (p.1 + l < y)).map fun p => D.int p.2) = LI at *
  generalize ps.map pD = PS at *
  generalize pos a = f at *
  have itA : itemsOf (.lst AL) = some AL := rfl
  have itG : itemsOf (.lst GL2) = some GL2 := rfl
  simp [mf__law_due, b__law_due, it, l1, wipeE, lc1, restE, s1, lc2', itA, l2, lc3', s3, b1, b2, e5, bm, ad, itG, l3, f2, tu, fin]
end Gk19
namespace Gk19
open PySem PySem.Spec PyProof.Rows L2 DM
theorem Ok.low {y y' : Int} {ps : PL} (h : Ok y ps) (k : y' ≤ y) : Ok y' ps := by
  cases h with
  | nil => exact .nil
  | cons a b c d => exact .cons (by omega) b c d
theorem Ok.snoc {y : Int} {ps : PL} (h : Ok y ps) {q : Int × Int} (h0 : y < q.1) (h1 : ∀ p ∈ ps, p.1 < q.1) (h2 : q.1 ≤ 9999) (h3 : 0 < q.2) : Ok y (ps ++ [q]) := by
  induction h with
  | nil => exact .cons h0 h2 h3 .nil
  | cons a b c d ih => exact .cons a b c (ih (h1 _ List.mem_cons_self) fun p hp => h1 p (List.mem_cons_of_mem _ hp))
theorem Ok.filter {y : Int} {ps : PL} (q : Int × Int → Bool) (h : Ok y ps) : Ok y (ps.filter q) := by
  induction h with
  | nil => exact .nil
  | cons a b c d ih =>
    rename_i y p ps
    cases e : q p with
    | true => rw [List.filter_cons_of_pos e]; exact .cons a b c ih
    | false => rw [List.filter_cons_of_neg (by simp [e])]; exact ih.low (by omega)
theorem wo_mem : ∀ {ps : PL} {u : Int}, 0 ≤ u → ∀ q ∈ wo u ps, ∃ p ∈ ps, q.1 = p.1 ∧ 0 < q.2 ∧ q.2 ≤ p.2 ∨ ∃ p ∈ ps, p.2 < 0
  | [], u, h0, q, h => by cases h
  | p :: ps, u, h0, q, h => by
    unfold wo at h
    by_cases hn : p.2 < 0
    · exact ⟨p, List.mem_cons_self, .inr ⟨p, List.mem_cons_self, hn⟩⟩
    · have ht : 0 ≤ (if u < p.2 then u else p.2) ∧ (if u < p.2 then u else p.2) ≤ u := by split <;> omega
      generalize (if u < p.2 then u else p.2) = t at *
      rcases List.mem_append.mp h with h | h
      · split at h
        · rw [List.mem_singleton] at h
          subst h
          exact ⟨p, List.mem_cons_self, .inl ⟨rfl, by simp; omega, by simp; omega⟩⟩
        · cases h
      · obtain ⟨p', hp, e⟩ := wo_mem (ps := ps) (u := u - t) (by omega) q h
        refine ⟨p', List.mem_cons_of_mem _ hp, e.imp id fun ⟨z, hz, e⟩ => ⟨z, List.mem_cons_of_mem _ hz, e⟩⟩
theorem Ok.wo {y : Int} {ps : PL} (h : Ok y ps) : ∀ {u : Int}, 0 ≤ u → Ok y (wo u ps) := by
  induction h with
  | nil => exact fun _ => .nil
  | cons a b c d ih =>
    rename_i y p ps
    intro u hu
    unfold Gk19.wo
    have ht : 0 ≤ (if u < p.2 then u else p.2) ∧ (if u < p.2 then u else p.2) ≤ u := by split <;> omega
    generalize (if u < p.2 then u else p.2) = t at *
    have := ih (u := u - t) (by omega)
    split
    · exact .cons a b (by simp; omega) this
    · exact this.low (by omega)
/-- what stands ahead of a turn -/
structure St (ps : PL) (y : Int) (L : Nat) : Prop where
  ok : Ok 0 ps
  lt : ∀ p ∈ ps, p.1 < y
  len : ps.length ≤ L
  top : ∀ p ∈ ps, p.2 ≤ 10 ^ 20
theorem St.pos {ps y L} (h : St ps y L) : ∀ p ∈ ps, 0 < p.1 ∧ 0 < p.2 := fun p hp => ⟨(h.ok.mem (by omega) p hp).1, (h.ok.mem (by omega) p hp).2.2⟩
theorem tot_b : ∀ {ps : PL}, (∀ p ∈ ps, 0 < p.2 ∧ p.2 ≤ 10 ^ 20) → 0 ≤ tot ps ∧ tot ps ≤ ps.length * 10 ^ 20
  | [], _ => ⟨Int.le_refl _, by simp [tot]⟩
  | p :: ps, h => by
    have ih := tot_b fun q hq => h q (List.mem_cons_of_mem _ hq)
    have hp := h p List.mem_cons_self
    have e : tot (p :: ps) = p.2 + tot ps := rfl
    rw [e, List.length_cons]
    have e2 : (((ps.length + 1 : Nat)) : Int) * 10 ^ 20 = ps.length * 10 ^ 20 + 10 ^ 20 := by rw [Int.natCast_add, Int.add_mul]; simp
    rw [e2]
    omega
theorem used_b {ps : PL} {w : Int} (h : 0 ≤ tot ps) : 0 ≤ used ps w ∧ used ps w ≤ tot ps := by
  unfold used
  split <;> split <;> omega
def nxt (ps : PL) (y l w a : Int) : PL := wo (used (alive ps y l) w) (alive ps y l) ++ if pos a > 0 then [(y, pos a)] else []
theorem St.next {ps y L} (h : St ps y L) (l w a : Int) {y' : Int} (hy : 0 < y ∧ y ≤ 9999) (hy' : y < y') (ha : a ≤ 10 ^ 20) : St (nxt ps y l w a) y' (L + 1) := by
  have am : ∀ p ∈ alive ps y l, p ∈ ps := fun p hp => (List.mem_filter.mp hp).1
  have ap : ∀ p ∈ alive ps y l, 0 < p.2 ∧ p.2 ≤ 10 ^ 20 := fun p hp => ⟨(h.pos p (am p hp)).2, h.top p (am p hp)⟩
  have ub := (used_b (w := w) (tot_b ap).1).1
  have wm : ∀ q ∈ wo (used (alive ps y l) w) (alive ps y l), q.1 < y ∧ q.2 ≤ 10 ^ 20 := fun q hq => by
    obtain ⟨p, hp, e⟩ := wo_mem ub q hq
    rcases e with ⟨e1, e2, e3⟩ | ⟨z, hz, e⟩
    · have := h.lt p (am p hp); have := (ap p hp).2
      omega
    · have := (ap z hz).1; omega
  have hk := (h.ok.filter (fun p => decide (y ≤ p.1 + l))).wo ub
  have hl := wo_len (used (alive ps y l) w) (alive ps y l)
  have hl2 := alive_len ps y l
  have hL := h.len
  have pa : Gk19.pos a ≤ 10 ^ 20 := by unfold Gk19.pos; split <;> omega
  unfold nxt
  by_cases g : Gk19.pos a > 0
  · rw [if_pos g]
    refine ⟨hk.snoc (by simpa using hy.1) (fun p hp => (wm p hp).1) hy.2 g, fun p hp => ?_, by simp; omega, fun p hp => ?_⟩
    · rcases List.mem_append.mp hp with z | z
      · have := (wm p z).1; omega
      · rw [List.mem_singleton.mp z]; exact hy'
    · rcases List.mem_append.mp hp with z | z
      · exact (wm p z).2
      · rw [List.mem_singleton.mp z]; exact pa
  · rw [if_neg g, List.append_nil]
    exact ⟨hk, fun p hp => by have := (wm p hp).1; omega, by omega, fun p hp => (wm p hp).2⟩
/-! repr -/
theorem w30 {i : Int} (h1 : -(10 ^ 30) ≤ i) (h2 : i ≤ 10 ^ 30) : (PyData.int i).weight ≤ 101 ∧ rok (.int i) = true := by
  have e : (10 : Int) ^ 30 < 2 ^ 100 := by decide +kernel
  have e3 : (2 : Int) ^ 100 < 2 ^ 1000 := by decide +kernel
  have e2 : ((2 ^ 100 : Nat) : Int) = 2 ^ 100 := by decide +kernel
  constructor
  · show (if i == 0 then 0 else i.natAbs.log2 + 1) ≤ 101
    split
    · omega
    · rename_i hz
      have h0 : i.natAbs ≠ 0 := by intro z; apply hz; simp; omega
      have := (Nat.log2_lt h0).mpr (show i.natAbs < 2 ^ 100 by omega)
      omega
  · show (decide _ && decide _) = true
    rw [decide_eq_true (by omega), decide_eq_true (by omega)]; rfl
theorem pts_w : ∀ {ps : PL}, (∀ p ∈ ps, 0 < p.1 ∧ p.1 ≤ 9999 ∧ 0 < p.2 ∧ p.2 ≤ 10 ^ 20) → rokAll (ps.map pD) = true ∧ PyData.weightAll (pyAll (ps.map pD)) ≤ 205 * ps.length ∧ PyData.depthAll (pyAll (ps.map pD)) ≤ 1
  | [], _ => ⟨rfl, by simp [pyAll, PyData.weightAll], by simp [pyAll, PyData.depthAll]⟩
  | p :: ps, h => by
    obtain ⟨a, b, c⟩ := pts_w fun q hq => h q (List.mem_cons_of_mem _ hq)
    obtain ⟨h1, h2, h3, h4⟩ := h p List.mem_cons_self
    have e : (10 : Int) ^ 20 ≤ 10 ^ 30 := by decide
    obtain ⟨u1, u2⟩ := w30 (i := p.1) (by omega) (by omega)
    obtain ⟨v1, v2⟩ := w30 (i := p.2) (by omega) (by omega)
    refine ⟨?_, ?_, ?_⟩
    · show (rok (pD p) && rokAll (ps.map pD)) = true
      rw [a]
      show ((rok (.int p.1) && (rok (.int p.2) && true)) && true) = true
      rw [u2, v2]; rfl
    · show (PyData.int p.1).weight + 1 + ((PyData.int p.2).weight + 1 + 0) + 1 + PyData.weightAll (pyAll (ps.map pD)) ≤ _
      rw [List.length_cons]
      omega
    · simp [pyAll, D.py, pD, PyData.depthAll, PyData.depth]; omega
theorem St.b {ps y L} (h : St ps y L) : ∀ p ∈ ps, 0 < p.1 ∧ p.1 ≤ 9999 ∧ 0 < p.2 ∧ p.2 ≤ 10 ^ 20 := fun p hp => ⟨(h.pos p hp).1, (h.ok.mem (by omega) p hp).2.1, (h.pos p hp).2, h.top p hp⟩
theorem St.rep {ps y L} (h : St ps y L) (hL : L ≤ 20) : ∃ s, bRepr [pts ps] = some (.str s) := by
  obtain ⟨a, b, c⟩ := pts_w h.b
  have := h.len
  refine ⟨_, repr_ok a ?_ ?_⟩
  · show PyData.weightAll (pyAll (ps.map pD)) ≤ 20000
    omega
  · show PyData.depthAll (pyAll (ps.map pD)) + 1 ≤ 60
    omega
theorem year_rep {ps y L} (h : St ps y L) (hL : L ≤ 19) (l w a : Int) (hy : 0 < y ∧ y ≤ 9999) (ha : a ≤ 10 ^ 20) : ∃ s, bRepr [.lst [year ps y l w a, year ps y l w a]] = some (.str s) := by
  have hn := h.next l w a hy (y' := y + 1) (by omega) ha
  obtain ⟨r1, r2, r3⟩ := pts_w hn.b
  have hl := hn.len
  have am : ∀ p ∈ alive ps y l, p ∈ ps := fun p hp => (List.mem_filter.mp hp).1
  have t1 := tot_b fun p hp => ⟨(h.pos p hp).2, h.top p hp⟩
  have t2 := tot_b (ps := alive ps y l) fun p hp => ⟨(h.pos p (am p hp)).2, h.top p (am p hp)⟩
  have ub := used_b (w := w) t2.1
  have l1 := h.len
  have l2 := alive_len ps y l
  have e : (10 : Int) ^ 20 = 100000000000000000000 := by decide
  have e30 : (10 : Int) ^ 30 = 1000000000000000000000000000000 := by decide
  have pa : 0 ≤ pos a ∧ pos a ≤ 10 ^ 20 := by unfold pos; split <;> omega
  obtain ⟨a1, a2⟩ := w30 (i := tot ps - tot (alive ps y l)) (by rw [e30]; rw [e] at t1 t2; omega) (by rw [e30]; rw [e] at t1 t2; omega)
  obtain ⟨b1, b2⟩ := w30 (i := used (alive ps y l) w) (by rw [e30]; rw [e] at t1 t2; omega) (by rw [e30]; rw [e] at t1 t2; omega)
  obtain ⟨c1, c2⟩ := w30 (i := pos a) (by rw [e30]; rw [e] at pa; omega) (by rw [e30]; rw [e] at pa; omega)
  have ry : rok (year ps y l w a) = true := by
    show (rok (.int _) && (rok (.int _) && (rok (.int _) && (rokAll ((nxt ps y l w a).map pD) && true)))) = true
    rw [a2, b2, c2, r1]; rfl
  have wy : (year ps y l w a).py.weight ≤ 5000 := by
    show (PyData.int _).weight + 1 + ((PyData.int _).weight + 1 + ((PyData.int _).weight + 1 + (PyData.weightAll (pyAll ((nxt ps y l w a).map pD)) + 1 + 0))) ≤ _
    omega
  have dy : (year ps y l w a).py.depth ≤ 3 := by
    show max 0 (max 0 (max 0 (max (PyData.depthAll (pyAll ((nxt ps y l w a).map pD)) + 1) 0))) + 1 ≤ 3
    omega
  refine ⟨_, repr_ok ?_ ?_ ?_⟩
  · show (rok _ && (rok _ && true)) = true
    rw [ry]; rfl
  · show (year ps y l w a).py.weight + 1 + ((year ps y l w a).py.weight + 1 + 0) ≤ 20000
    omega
  · show max (year ps y l w a).py.depth (max (year ps y l w a).py.depth 0) + 1 ≤ 60
    omega
end Gk19
namespace Gk19
open PySem PySem.Spec PyProof.Rows L2 DM
abbrev inB : Ms := (sSeq (sPar [13, 14] (aCons (eCall mf__law_due [0, 1, 2, 3, 4] (aCons (eVar 3) (aCons (eVar 4) (aCons (eVar 7) (aCons (eVar 10) (aCons (eVar 11) (aNil)))))) (aNil)) (aCons (eB bRepr (aCons (eVar 3) aNil)) (aNil)))) (sSeq (sSet 15 (eLst (aCons (eCall mf_pool_year [0, 1, 2, 3, 4] (aCons (eVar 3) (aCons (eVar 4) (aCons (eVar 7) (aCons (eVar 10) (aCons (eVar 11) (aNil)))))) (aNil)) (aNil)))) (sSeq (sExp (eMut 15 mAppend (aCons (eCall mf_pool_year [4, 3, 2, 1, 0] aNil (aCons (eVar 11) (aCons (eVar 10) (aCons (eVar 7) (aCons (eVar 4) (aCons (eVar 3) (aNil))))))) (aNil)))) (sSeq (sIf (tOrM (tCp opNe (eB bRepr (aCons (eVar 15) aNil)) (eB bRepr (aCons (eLst (aCons (eVar 13) (aCons (eVar 13) (aNil)))) aNil))) (tCp opNe (eB bRepr (aCons (eVar 3) aNil)) (eVar 14))) (sRet (eK (.bl false))) (sNil)) (sSeq (sPar [3, 4] (aCons (eIx (eIx (eVar 15) (eK (.int 0))) (eK (.int 3))) (aCons (eOp opAdd (eOp opAdd (eVar 4) (eK (.int 1))) (eOp opMod (eOp opFdiv (eVar 6) (eK (.int 9))) (eK (.int 3)))) (aNil)))) (sSeq (sIf (tCp opIsNot (eCall mf_are_parts [0] (aCons (eVar 3) (aNil)) (aNil)) (eK (.bl true))) (sRet (eK (.bl false))) (sNil)) (sNil)))))))
abbrev outB : Ms := (sSeq (sAsg (eTup (aCons (eCallG mf__law_kept (gVal (eVar 0) (gOwn 1 (DM.gNil)))) (aCons (eCallG mf__law_cell (gVal (eVar 0) (gOwn 1 (DM.gNil)))) (aCons (eCallG mf__law_cell (gVal (eVar 0) (gOwn 1 (DM.gNil)))) (aNil))))) (gTupM 3 (gsCons (gTupM 2 (gsCons (gNm 3) (gsCons (gNm 4) (gsNil)))) (gsCons (gNm 5) (gsCons (gNm 6) (gsNil)))))) (sSeq (sPar [4, 7] (aCons (eOp opAdd (eVar 4) (eIx (eLst (aCons (eK (.int 0)) (aCons (eK (.int 0)) (aCons (eK (.int 1)) (aCons (eK (.int 3)) (aCons (eK (.int 19)) (aCons (eK (.int 25)) (aNil)))))))) (eOp opMod (eVar 5) (eK (.int 6))))) (aCons (eOp opAdd (eK (.int 1)) (eOp opMod (eOp opFdiv (eVar 5) (eK (.int 6))) (eK (.int 20)))) (aNil)))) (sSeq (sSet 8 (eB bSum (aCons (eLc [16, 17] (iVal (eVar 3)) (gTupM 2 (gsCons (gNm 16) (gsCons (gNm 17) (gsNil)))) (tYesM) (eVar 17)) aNil))) (sSeq (sSet 9 (eLst (aCons (eK (.int 0)) (aCons (eUn opNeg (eK (.int 5))) (aCons (eVar 8) (aCons (eOp opAdd (eVar 8) (eK (.int 1))) (aCons (eOp opSub (eVar 8) (eK (.int 1))) (aCons (eOp opFdiv (eVar 8) (eK (.int 2))) (aCons (eIf (tCp opNe (eVar 3) (eTup (aNil))) (eIx (eIx (eVar 3) (eK (.int 0))) (eK (.int 1))) (eK (.int 3))) (aCons (eOp opPow (eK (.int 10)) (eK (.int 18))) (aNil))))))))))) (sSeq (sPar [10, 11] (aCons (eIx (eVar 9) (eOp opMod (eVar 6) (eK (.int 8)))) (aCons (eIx (eLst (aCons (eK (.int 0)) (aCons (eUn opNeg (eK (.int 7))) (aCons (eK (.int 1)) (aCons (eOp opMod (eOp opFdiv (eVar 6) (eK (.int 64))) (eK (.int 1000))) (aCons (eOp opPow (eK (.int 10)) (eK (.int 20))) (aNil))))))) (eOp opMod (eOp opFdiv (eVar 6) (eK (.int 8))) (eK (.int 5)))) (aNil)))) (sSeq (sFor (iRng (aCons (eK (.int 3)) (aNil))) (gNm 12) inB) (sNil)))))))
abbrev kpB : Ms := (sSeq (sSet 6 (eCallG mf__law_cell (gVal (eVar 0) (gOwn 1 (DM.gNil))))) (sSeq (sExp (eMut 3 mAppend (aCons (eTup (aCons (eVar 4) (aCons (eOp opAdd (eK (.int 1)) (eOp opMod (eOp opFdiv (eVar 6) (eK (.int 8))) (eIx (eLst (aCons (eK (.int 3)) (aCons (eK (.int 100)) (aCons (eOp opPow (eK (.int 10)) (eK (.int 6))) (aCons (eOp opPow (eK (.int 10)) (eK (.int 15))) (aNil)))))) (eOp opMod (eVar 6) (eK (.int 4)))))) (aNil)))) (aNil)))) (sSeq (sSet 4 (eOp opAdd (eVar 4) (eIx (eLst (aCons (eK (.int 1)) (aCons (eK (.int 1)) (aCons (eK (.int 2)) (aCons (eK (.int 5)) (aNil)))))) (eOp opMod (eOp opFdiv (eVar 6) (eK (.int 2))) (eK (.int 4)))))) (sNil))))
theorem law_is : b_law = sSeq (sSet 1 (eLst (aCons (eK (.int 0)) (aNil)))) (sSeq (sFor (iRng (aCons (eOp opAdd (eK (.int 10)) (eB bMin (aCons (eK (.int 40)) (aCons (eOp opFdiv (eB bLen (aCons (eVar 0) aNil)) (eK (.int 2))) (aNil))))) (aNil))) (gNm 2) outB) (sRet (eK (.bl true)))) := rfl
theorem kept_is : b__law_kept = sSeq (sPar [2, 3, 4] (aCons (eCallG mf__law_cell (gVal (eVar 0) (gOwn 1 (DM.gNil)))) (aCons (eLst (aNil)) (aCons (eOp opAdd (eK (.int 1)) (eOp opMod (eCallG mf__law_cell (gVal (eVar 0) (gOwn 1 (DM.gNil)))) (eK (.int 9900)))) (aNil))))) (sSeq (sFor (iRng (aCons (eOp opMod (eVar 2) (eK (.int 7))) (aNil))) (gNm 5) kpB) (sRet (eTup (aCons (eUn tupD (eVar 3)) (aCons (eVar 4) (aNil)))))) := rfl

theorem turn (ps : PL) (y l w a : Int) (L : Nat) (h : St ps y L) (hL : L ≤ 19) (hy : 0 < y ∧ y ≤ 9999) (hl : 1 ≤ l ∧ l ≤ 20) (ha : a ≤ 10 ^ 20) (m : Int) (x0 x1 x2 x5 x8 x9 x12 x13 x14 x15 x16 x17 : Option D) :
    ∃ y' y13 y14 y15, St (nxt ps y l w a) y' (L + 1) ∧ y < y' ∧ y' ≤ y + 3 ∧ inB [x0, x1, x2, some (pts ps), some (.int y), x5, some (.int m), some (.int l), x8, x9, some (.int w), some (.int a), x12, x13, x14, x15, x16, x17] = .ok .nx [x0, x1, x2, some (pts (nxt ps y l w a)), some (.int y'), x5, some (.int m), some (.int l), x8, x9, some (.int w), some (.int a), x12, y13, y14, y15, x16, x17] := by
  have hlen := h.len
  have d := due ps y l w a (by omega) fun p hp => (h.pos p hp).2
  have py := pool_year (w := w) (a := a) h.ok (by omega) (by omega) (y := y) (l := l) ⟨by omega, hy.2⟩ hl h.lt
  obtain ⟨s1, r1⟩ := h.rep (by omega)
  obtain ⟨s2, r2⟩ := year_rep h hL l w a hy ha
  have m9 : opFdiv (.v (.int m)) (.v (.int 9)) = some (.int (m / 9)) := opFdiv_ii (by decide) (by decide +kernel)
  have m3 : opMod (.v (.int (m / 9))) (.v (.int 3)) = some (.int (m / 9 % 3)) := opMod_ii (by decide)
  have hy' : y < y + 1 + m / 9 % 3 := by omega
  have hn := h.next l w a hy hy' ha
  have ap := are_parts hn.ok (by omega) (by have := hn.len; omega)
  have i0 : ixD (.lst [year ps y l w a, year ps y l w a]) (.v (.int 0)) = some (year ps y l w a) := rfl
  have i3 : ixD (year ps y l w a) (.v (.int 3)) = some (pts (nxt ps y l w a)) := rfl
  have ma : mAppend [year ps y l w a] [year ps y l w a] = some (.non, [year ps y l w a, year ps y l w a]) := mAppend_ok (by simp)
  refine ⟨y + 1 + m / 9 % 3, some (year ps y l w a), some (.str s1), some (.lst [year ps y l w a, year ps y l w a]), hn, hy', by omega, ?_⟩
  have isn : opIsNot (.v (.bl true)) (.v (.bl true)) = some false := rfl
  generalize year ps y l w a = Y at *
  generalize pts (nxt ps y l w a) = N at *
  generalize pts ps = P at *
  simp [perm, d, r1, py, ma, r2, i0, i3, m9, m3, ap, isn]
end Gk19
namespace Gk19
open PySem PySem.Spec PyProof.Rows L2 DM
/-- an item of a list of whole numbers -/
theorem ix_ints (vs : List Int) (n : Int) (hn : n = vs.length) (h0 : 0 < n) (i : Int) : ∃ v ∈ vs, ixD (.lst (vs.map D.int)) (.v (.int (i % n))) = some (.int v) := by
  obtain ⟨d, hd, e⟩ := ix_lst (ds := vs.map D.int) (i := i) n (by simpa using hn) h0
  obtain ⟨v, hv, rfl⟩ := List.mem_map.mp hd
  exact ⟨v, hv, e⟩
theorem kp_loop (ns : List Int) (hns : ns.length ≤ 63) (n : Int) : ∀ (ds : List D) (ps : PL) (y k : Int) (L : Nat) (x5 x6 : Option D), St ps y L → 0 < y → y + 5 * ds.length ≤ 9999 → L + ds.length ≤ 100 → 0 ≤ k → k + ds.length ≤ 900000 →
    ∃ ps' y' y5 y6, St ps' y' (L + ds.length) ∧ 0 < y' ∧ y' ≤ y + 5 * ds.length ∧ forL (gNm 5) kpB ds [some (.scr ns), some (.lst [.int k]), some (.int n), some (.lst (ps.map pD)), some (.int y), x5, x6] = .ok .nx [some (.scr ns), some (.lst [.int (k + ds.length)]), some (.int n), some (.lst (ps'.map pD)), some (.int y'), y5, y6]
  | [], ps, y, k, L, x5, x6, h, hy, _, _, _, _ => ⟨ps, y, x5, x6, h, hy, by simp, by simp [forL_nil]⟩
  | d :: ds, ps, y, k, L, x5, x6, h, hy, h1, h2, h3, h4 => by
    simp only [List.length_cons] at h1 h2 h4 ⊢
    obtain ⟨m, m0, m1, c⟩ := cell ns hns k h3 (by omega)
    obtain ⟨v, hv, e1⟩ := ix_ints [3, 100, 1000000, 1000000000000000] 4 rfl (by decide) m
    obtain ⟨u, hu, e2⟩ := ix_ints [1, 1, 2, 5] 4 rfl (by decide) (m / 2)
    have hv2 : 0 < v ∧ v ≤ 1000000000000000 := by
      have z : ([3, 100, 1000000, 1000000000000000] : List Int).all (fun v => decide (0 < v ∧ v ≤ 1000000000000000)) = true := by decide
      exact of_decide_eq_true (List.all_eq_true.mp z v hv)
    have hu2 : 0 < u ∧ u ≤ 5 := by
      have z : ([1, 1, 2, 5] : List Int).all (fun v => decide (0 < v ∧ v ≤ 5)) = true := by decide
      exact of_decide_eq_true (List.all_eq_true.mp z u hu)
    have e1' : ixD (.lst [.int 3, .int 100, .int 1000000, .int 1000000000000000]) (.v (.int (m % 4))) = some (.int v) := e1
    have e2' : ixD (.lst [.int 1, .int 1, .int 2, .int 5]) (.v (.int (m / 2 % 4))) = some (.int u) := e2
    have p6 : opPow (.v (.int 10)) (.v (.int 6)) = some (.int 1000000) := opPow_ii (by decide) (by decide) (by decide)
    have p15 : opPow (.v (.int 10)) (.v (.int 15)) = some (.int 1000000000000000) := opPow_ii (by decide) (by decide) (by decide)
    have d8 : opFdiv (.v (.int m)) (.v (.int 8)) = some (.int (m / 8)) := opFdiv_ii (by decide) (by decide +kernel)
    have d2 : opFdiv (.v (.int m)) (.v (.int 2)) = some (.int (m / 2)) := opFdiv_ii (by decide) (by decide +kernel)
    have m4 : ∀ i : Int, opMod (.v (.int i)) (.v (.int 4)) = some (.int (i % 4)) := fun i => opMod_ii (by decide)
    have mv : opMod (.v (.int (m / 8))) (.v (.int v)) = some (.int (m / 8 % v)) := opMod_ii hv2.1
    have q0 := Int.emod_nonneg (m / 8) (b := v) (by omega)
    have q1 := Int.emod_lt_of_pos (m / 8) (b := v) hv2.1
    have hs : St (ps ++ [(y, 1 + m / 8 % v)]) (y + u) (L + 1) := by
      have e20 : (10 : Int) ^ 20 = 100000000000000000000 := by decide
      refine ⟨h.ok.snoc (by simpa using hy) (fun p hp => h.lt p hp) (by simp; omega) (by simp; omega), fun p hp => ?_, by have := h.len; simp; omega, fun p hp => ?_⟩
      · rcases List.mem_append.mp hp with z | z
        · have := h.lt p z; omega
        · rw [List.mem_singleton.mp z]; simp; omega
      · rcases List.mem_append.mp hp with z | z
        · exact h.top p z
        · rw [List.mem_singleton.mp z, e20]; simp; omega
    obtain ⟨ps', y', y5, y6, g1, g2, g3, g4⟩ := kp_loop ns hns n ds (ps ++ [(y, 1 + m / 8 % v)]) (y + u) (k + 1) (L + 1) (some d) (some (.int m)) hs (by omega) (by omega) (by omega) (by omega) (by omega)
    have ma : mAppend (ps.map pD) [.tup [.int y, .int (1 + m / 8 % v)]] = some (.non, (ps ++ [(y, 1 + m / 8 % v)]).map pD) := by
      rw [mAppend_ok (by have := h.len; simp; omega)]; simp [pD]
    refine ⟨ps', y', y5, y6, by rw [show L + (ds.length + 1) = L + 1 + ds.length by omega]; exact g1, g2, by omega, ?_⟩
    rw [show k + ((ds.length + 1 : Nat) : Int) = k + 1 + ds.length by omega, forL_cons]
    generalize (ps ++ [(y, 1 + m / 8 % v)]).map pD = Q at *
    generalize ps.map pD = P at *
    have hb : forL (gNm 5) kpB ds [some (.scr ns), some (.lst [.int (k + 1)]), some (.int n), some (.lst Q), some (.int (y + u)), some d, some (.int m)] = _ := g4
    have st : kpB [some (.scr ns), some (.lst [.int k]), some (.int n), some (.lst P), some (.int y), some d, x6] = .ok .nx [some (.scr ns), some (.lst [.int (k + 1)]), some (.int n), some (.lst Q), some (.int (y + u)), some d, some (.int m)] := by
      simp [fetch, putBack, c, d8, p6, p15, m4, e1', mv, ma, d2, e2']
    have g : gNm 5 d [some (.scr ns), some (.lst [.int k]), some (.int n), some (.lst P), some (.int y), x5, x6] = some [some (.scr ns), some (.lst [.int k]), some (.int n), some (.lst P), some (.int y), some d, x6] := by simp
    rw [g, toN_some, Out.seq_nx, turnK_app, st, Out.turn_nx, hb]
theorem kept (ns : List Int) (hns : ns.length ≤ 63) (k : Int) (h0 : 0 ≤ k) (h1 : k ≤ 800000) : ∃ (ps : PL) (y k' : Int), St ps y 6 ∧ 0 < y ∧ y ≤ 9930 ∧ k ≤ k' ∧ k' ≤ k + 8 ∧ mf__law_kept [.scr ns, .lst [.int k]] = .ok (.tup [pts ps, .int y]) [.scr ns, .lst [.int k']] := by
  obtain ⟨n, n0, n1, c1⟩ := cell ns hns k h0 (by omega)
  obtain ⟨m, m0, m1, c2⟩ := cell ns hns (k + 1) (by omega) (by omega)
  rw [show k + 1 + 1 = k + 2 by omega] at c2
  have m7 : opMod (.v (.int n)) (.v (.int 7)) = some (.int (n % 7)) := opMod_ii (by decide)
  have m9 : opMod (.v (.int m)) (.v (.int 9900)) = some (.int (m % 9900)) := opMod_ii (by decide)
  have rg := rng_nat (n := n % 7) (by omega) (by omega)
  have hl : ((List.range (n % 7).toNat).map fun (k : Nat) => D.int (k : Int)).length = (n % 7).toNat := by simp
  obtain ⟨ps, y, y5, y6, s, hy, hy2, e⟩ := kp_loop ns hns n ((List.range (n % 7).toNat).map fun (k : Nat) => D.int (k : Int)) [] (1 + m % 9900) (k + 2) 0 none none ⟨.nil, fun p h => (nomatch h), by simp, fun p h => (nomatch h)⟩ (by omega) (by rw [hl]; omega) (by rw [hl]; omega) (by omega) (by rw [hl]; omega)
  rw [hl] at s hy2 e
  refine ⟨ps, y, k + 2 + ((n % 7).toNat : Int), ⟨s.ok, s.lt, by have := s.len; omega, s.top⟩, hy, by omega, by omega, by omega, ?_⟩
  have tu : tupD (.lst (ps.map pD)) = some (pts ps) := rfl
  have e0 : ([] : PL).map pD = [] := rfl
  rw [e0] at e
  generalize ps.map pD = P at *
  generalize pts ps = PP at *
  generalize hB : kpB = B at e
  rw [mf__law_kept, kept_is, hB]
  have e' : forL (gNm 5) B ((List.range (n % 7).toNat).map fun (k : Nat) => D.int (k : Int)) [some (.scr ns), some (.lst [.int (k + 2)]), some (.int n), some (.lst []), some (.int (1 + m % 9900)), none, none] = _ := e
  generalize k + 2 + ((n % 7).toNat : Int) = kk at *
  simp [fetch, putBack, c1, c2, m9, m7, rg, e', tu, fin]
end Gk19
namespace Gk19
open PySem PySem.Spec PyProof.Rows L2 DM
theorem turns (l w a m : Int) (hl : 1 ≤ l ∧ l ≤ 20) (ha : a ≤ 10 ^ 20) (x0 x1 x2 x5 x8 x9 x16 x17 : Option D) : ∀ (ds : List D) (ps : PL) (y : Int) (L : Nat) (x12 x13 x14 x15 : Option D), St ps y L → L + ds.length ≤ 20 → 0 < y → y + 3 * ds.length ≤ 9999 →
    ∃ y3 y4 y12 y13 y14 y15, forL (gNm 12) inB ds [x0, x1, x2, some (pts ps), some (.int y), x5, some (.int m), some (.int l), x8, x9, some (.int w), some (.int a), x12, x13, x14, x15, x16, x17] = .ok .nx [x0, x1, x2, y3, y4, x5, some (.int m), some (.int l), x8, x9, some (.int w), some (.int a), y12, y13, y14, y15, x16, x17]
  | [], ps, y, L, x12, x13, x14, x15, h, _, _, _ => ⟨some (pts ps), some (.int y), x12, x13, x14, x15, rfl⟩
  | d :: ds, ps, y, L, x12, x13, x14, x15, h, h1, hy, h2 => by
    simp only [List.length_cons] at h1 h2
    obtain ⟨y', y13, y14, y15, hn, g1, g2, st⟩ := turn ps y l w a L h (by omega) ⟨hy, by omega⟩ hl ha m x0 x1 x2 x5 x8 x9 (some d) x13 x14 x15 x16 x17
    obtain ⟨z3, z4, z12, z13, z14, z15, e⟩ := turns l w a m hl ha x0 x1 x2 x5 x8 x9 x16 x17 ds (nxt ps y l w a) y' (L + 1) (some d) y13 y14 y15 hn (by omega) (by omega) (by omega)
    refine ⟨z3, z4, z12, z13, z14, z15, ?_⟩
    rw [forL_cons]
    have g : gNm 12 d [x0, x1, x2, some (pts ps), some (.int y), x5, some (.int m), some (.int l), x8, x9, some (.int w), some (.int a), x12, x13, x14, x15, x16, x17] = some [x0, x1, x2, some (pts ps), some (.int y), x5, some (.int m), some (.int l), x8, x9, some (.int w), some (.int a), some d, x13, x14, x15, x16, x17] := by simp
    rw [g, toN_some, Out.seq_nx, turnK_app, st, Out.turn_nx, e]
theorem St.later {ps y L} (h : St ps y L) {y' : Int} (hy : y ≤ y') : St ps y' L := ⟨h.ok, fun p hp => by have := h.lt p hp; omega, h.len, h.top⟩
theorem first (ps : PL) : ∃ (b : Bool) (f : Int), opNe (pts ps) (.tup []) = some b ∧ ((b = false ∧ f = 3) ∨ (b = true ∧ ∃ q, ixD (pts ps) (.v (.int 0)) = some q ∧ ixD q (.v (.int 1)) = some (.int f))) := by
  cases ps with
  | nil => exact ⟨false, 3, ne_nil [], .inl ⟨rfl, rfl⟩⟩
  | cons p ps =>
    have i : ixD (pts (p :: ps)) (.v (.int 0)) = some (pD p) := by
      show atI (pD p :: ps.map pD) 0 = _
      simp [atI, ixN]
    exact ⟨true, p.2, ne_nil _, .inr ⟨rfl, pD p, i, rfl⟩⟩
theorem out1 (ns : List Int) (hns : ns.length ≤ 63) (k : Int) (h0 : 0 ≤ k) (h1 : k ≤ 800000) (x2 x3 x4 x5 x6 x7 x8 x9 x10 x11 x12 x13 x14 x15 x16 x17 : Option D) :
    ∃ (k' : Int) (y3 y4 y5 y6 y7 y8 y9 y10 y11 y12 y13 y14 y15 : Option D), k ≤ k' ∧ k' ≤ k + 10 ∧ outB [some (.scr ns), some (.lst [.int k]), x2, x3, x4, x5, x6, x7, x8, x9, x10, x11, x12, x13, x14, x15, x16, x17] = .ok .nx [some (.scr ns), some (.lst [.int k']), x2, y3, y4, y5, y6, y7, y8, y9, y10, y11, y12, y13, y14, y15, x16, x17] := by
  obtain ⟨ps, y, k', s, hy, hy2, g1, g2, c⟩ := kept ns hns k h0 h1
  obtain ⟨n, n0, n1, c1⟩ := cell ns hns k' (by omega) (by omega)
  obtain ⟨m, m0, m1, c2⟩ := cell ns hns (k' + 1) (by omega) (by omega)
  rw [show k' + 1 + 1 = k' + 2 by omega] at c2
  obtain ⟨g, hg, e1⟩ := ix_ints [0, 0, 1, 3, 19, 25] 6 rfl (by decide) n
  have hg2 : 0 ≤ g ∧ g ≤ 25 := by
    have z : ([0, 0, 1, 3, 19, 25] : List Int).all (fun v => decide (0 ≤ v ∧ v ≤ 25)) = true := by decide
    exact of_decide_eq_true (List.all_eq_true.mp z g hg)
  have s' : St ps (y + g) 6 := s.later (by omega)
  obtain ⟨b, f, ne, hb⟩ := first ps
  obtain ⟨w, _, e2⟩ := ix_ints [0, -5, tot ps, tot ps + 1, tot ps - 1, tot ps / 2, f, 1000000000000000000] 8 rfl (by decide) m
  obtain ⟨a, ha, e3⟩ := ix_ints [0, -7, 1, m / 64 % 1000, 100000000000000000000] 5 rfl (by decide) (m / 8)
  have ha2 : a ≤ 10 ^ 20 := by
    have e20 : (10 : Int) ^ 20 = 100000000000000000000 := by decide
    simp only [List.mem_cons, List.not_mem_nil, or_false] at ha
    rw [e20]
    omega
  have e1' : ixD (.lst [.int 0, .int 0, .int 1, .int 3, .int 19, .int 25]) (.v (.int (n % 6))) = some (.int g) := e1
  have e2' : ixD (.lst [.int 0, .int (-5), .int (tot ps), .int (tot ps + 1), .int (tot ps - 1), .int (tot ps / 2), .int f, .int 1000000000000000000]) (.v (.int (m % 8))) = some (.int w) := e2
  have e3' : ixD (.lst [.int 0, .int (-7), .int 1, .int (m / 64 % 1000), .int 100000000000000000000]) (.v (.int (m / 8 % 5))) = some (.int a) := e3
  have p18 : opPow (.v (.int 10)) (.v (.int 18)) = some (.int 1000000000000000000) := opPow_ii (by decide) (by decide) (by decide)
  have p20 : opPow (.v (.int 10)) (.v (.int 20)) = some (.int 100000000000000000000) := opPow_ii (by decide) (by decide) (by decide)
  have f6 : opFdiv (.v (.int n)) (.v (.int 6)) = some (.int (n / 6)) := opFdiv_ii (by decide) (by decide +kernel)
  have f2 : ∀ i : Int, opFdiv (.v (.int i)) (.v (.int 2)) = some (.int (i / 2)) := fun i => opFdiv_ii (by decide) (by decide +kernel)
  have f64 : opFdiv (.v (.int m)) (.v (.int 64)) = some (.int (m / 64)) := opFdiv_ii (by decide) (by decide +kernel)
  have f8 : opFdiv (.v (.int m)) (.v (.int 8)) = some (.int (m / 8)) := opFdiv_ii (by decide) (by decide +kernel)
  have m6 : opMod (.v (.int n)) (.v (.int 6)) = some (.int (n % 6)) := opMod_ii (by decide)
  have m20 : opMod (.v (.int (n / 6))) (.v (.int 20)) = some (.int (n / 6 % 20)) := opMod_ii (by decide)
  have m8 : opMod (.v (.int m)) (.v (.int 8)) = some (.int (m % 8)) := opMod_ii (by decide)
  have m5 : opMod (.v (.int (m / 8))) (.v (.int 5)) = some (.int (m / 8 % 5)) := opMod_ii (by decide)
  have mk : opMod (.v (.int (m / 64))) (.v (.int 1000)) = some (.int (m / 64 % 1000)) := opMod_ii (by decide)
  have rg : rngOf [.int 3] = some [.int 0, .int 1, .int 2] := rfl
  have hlen := s.len
  have lc := lcL_pure (own := [16, 17]) (ρ0 := [some (.scr ns), some (.lst [.int (k' + 2)]), x2, some (pts ps), some (.int (y + g)), some (.int n), some (.int m), some (.int (1 + n / 6 % 20)), x8, x9, x10, x11, x12, x13, x14, x15, x16, x17]) (ρ := [some (.scr ns), some (.lst [.int (k' + 2)]), x2, some (pts ps), some (.int (y + g)), some (.int n), some (.int m), some (.int (1 + n / 6 % 20)), x8, x9, x10, x11, x12, x13, x14, x15, none, none]) (mt := gTupM 2 (gsCons (gNm 16) (gsCons (gNm 17) gsNil))) (mc := tYesM) (me := eVar 17) (p := fun _ => true) (f := fun d => match d with | .tup [_, y] => y | _ => .non) (ds := ps.map pD) (acc := []) (by
    intro d hd
    obtain ⟨p, hp, rfl⟩ := List.mem_map.mp hd
    exact ⟨[some (.scr ns), some (.lst [.int (k' + 2)]), x2, some (pts ps), some (.int (y + g)), some (.int n), some (.int m), some (.int (1 + n / 6 % 20)), x8, x9, x10, x11, x12, x13, x14, x15, some (.int p.1), some (.int p.2)], by rw [tgt2 _ _ _ _ (by simp) (by simp)]; rfl, by simp, fun _ => by simp [pD], by simp [wipeE]⟩)
  have e : ((ps.map pD).filter fun _ => true).map (fun d => match d with | .tup [_, y] => y | _ => D.non) = ps.map fun p => D.int p.2 := by
    rw [List.filter_eq_self.mpr (by simp), List.map_map]; rfl
  rw [e, List.nil_append] at lc
  have it : itemsOf (pts ps) = some (ps.map pD) := rfl
  have l1 : (ps.map pD).length ≤ 16777216 := by simp; omega
  have bs : bSum [.lst (ps.map fun p => D.int p.2)] = some (.int (tot ps)) := bSum_map _ ps
  obtain ⟨y3, y4, y12, y13, y14, y15, tu⟩ := turns (1 + n / 6 % 20) w a m (by omega) ha2 (some (.scr ns)) (some (.lst [.int (k' + 2)])) x2 (some (.int n)) (some (.int (tot ps))) (some (.lst [.int 0, .int (-5), .int (tot ps), .int (tot ps + 1), .int (tot ps - 1), .int (tot ps / 2), .int f, .int 1000000000000000000])) x16 x17 [.int 0, .int 1, .int 2] ps (y + g) 6 x12 x13 x14 x15 s' (by simp) (by omega) (by simp; omega)
  refine ⟨k' + 2, y3, y4, some (.int n), some (.int m), some (.int (1 + n / 6 % 20)), some (.int (tot ps)), some (.lst [.int 0, .int (-5), .int (tot ps), .int (tot ps + 1), .int (tot ps - 1), .int (tot ps / 2), .int f, .int 1000000000000000000]), some (.int w), some (.int a), y12, y13, y14, y15, by omega, by omega, ?_⟩
  clear e1 e2 e3 s s' hlen
  generalize (ps.map fun p => D.int p.2) = B at *
  generalize ps.map pD = A at *
  generalize pts ps = P at *
  generalize tot ps = t at *
  suffices ev : outB [some (.scr ns), some (.lst [.int k]), x2, x3, x4, x5, x6, x7, x8, x9, x10, x11, x12, x13, x14, x15, x16, x17] = _ from ev.trans (congrArg (fun o => Out.seq o sNil) tu)
  rcases hb with ⟨rfl, rfl⟩ | ⟨rfl, q, i0, i1⟩
  · simp [fetch, putBack, perm, c, c1, c2, e1', e2', e3', p18, p20, f6, f2, f64, f8, m6, m20, m8, m5, mk, rg, it, l1, wipeE, lc, restE, bs, ne]
  · simp [fetch, putBack, perm, c, c1, c2, e1', e2', e3', p18, p20, f6, f2, f64, f8, m6, m20, m8, m5, mk, rg, it, l1, wipeE, lc, restE, bs, ne, i0, i1]
theorem outs (ns : List Int) (hl : ns.length ≤ 63) (x16 x17 : Option D) : ∀ (ds : List D) (k : Int) (x2 x3 x4 x5 x6 x7 x8 x9 x10 x11 x12 x13 x14 x15 : Option D), 0 ≤ k → k + 10 * ds.length ≤ 800000 → ∃ y1 y2 y3 y4 y5 y6 y7 y8 y9 y10 y11 y12 y13 y14 y15, forL (gNm 2) outB ds [some (.scr ns), some (.lst [.int k]), x2, x3, x4, x5, x6, x7, x8, x9, x10, x11, x12, x13, x14, x15, x16, x17] = .ok .nx [some (.scr ns), y1, y2, y3, y4, y5, y6, y7, y8, y9, y10, y11, y12, y13, y14, y15, x16, x17]
  | [], k, x2, x3, x4, x5, x6, x7, x8, x9, x10, x11, x12, x13, x14, x15, _, _ => ⟨_, _, _, _, _, _, _, _, _, _, _, _, _, _, _, rfl⟩
  | d :: ds, k, x2, x3, x4, x5, x6, x7, x8, x9, x10, x11, x12, x13, x14, x15, h0, h1 => by
    simp only [List.length_cons] at h1
    obtain ⟨k', y3, y4, y5, y6, y7, y8, y9, y10, y11, y12, y13, y14, y15, g1, g2, e⟩ := out1 ns hl k h0 (by omega) (some d) x3 x4 x5 x6 x7 x8 x9 x10 x11 x12 x13 x14 x15 x16 x17
    obtain ⟨z1, z2, z3, z4, z5, z6, z7, z8, z9, z10, z11, z12, z13, z14, z15, e2⟩ := outs ns hl x16 x17 ds k' (some d) y3 y4 y5 y6 y7 y8 y9 y10 y11 y12 y13 y14 y15 (by omega) (by omega)
    refine ⟨z1, z2, z3, z4, z5, z6, z7, z8, z9, z10, z11, z12, z13, z14, z15, ?_⟩
    rw [forL_cons]
    have g : gNm 2 d [some (.scr ns), some (.lst [.int k]), x2, x3, x4, x5, x6, x7, x8, x9, x10, x11, x12, x13, x14, x15, x16, x17] = some [some (.scr ns), some (.lst [.int k]), some d, x3, x4, x5, x6, x7, x8, x9, x10, x11, x12, x13, x14, x15, x16, x17] := by simp
    rw [g, toN_some, Out.seq_nx, turnK_app, e, Out.turn_nx, e2]
theorem plain (ns : List Int) (hl : ns.length ≤ 63) : ∃ ds, mf_law [.scr ns] = .ok (.bl true) ds := by
  have bl : bLen [.scr ns] = some (.int ns.length) := rfl
  have f2 : opFdiv (.v (.int ns.length)) (.v (.int 2)) = some (.int (ns.length / 2)) := opFdiv_ii (by decide) (by decide +kernel)
  have bm : ∃ j : Int, 0 ≤ j ∧ j ≤ 40 ∧ bMin [.int 40, .int (ns.length / 2)] = some (.int j) := by
    refine ⟨_, ?_, ?_, rfl⟩
    · split <;> omega
    · split <;> omega
  obtain ⟨j, j0, j1, bj⟩ := bm
  have rg := rng_nat (n := 10 + j) (by omega) (by omega)
  obtain ⟨y1, y2, y3, y4, y5, y6, y7, y8, y9, y10, y11, y12, y13, y14, y15, e⟩ := outs ns hl none none ((List.range (10 + j).toNat).map fun (k : Nat) => D.int (k : Int)) 0 none none none none none none none none none none none none none none (by omega) (by simp; omega)
  have ex : ∃ ds, fin [.fz] [.scr ns] [some (.scr ns), y1, y2, y3, y4, y5, y6, y7, y8, y9, y10, y11, y12, y13, y14, y15, none, none] = some ds := ⟨[.scr ns], rfl⟩
  obtain ⟨ds, ex⟩ := ex
  refine ⟨ds, ?_⟩
  rw [mf_law, law_is]
  generalize outB = tb at e
  simp [bl, f2, bj, rg, e, ex]
end Gk19
theorem PySem.Challenge.cw_leviesbook_k19_pools_year_by_year_holds : PySem.Challenge.rw_leviesbook_k19_pools_year_by_year.Holds := by
  exact Gk19.law_from fun ns hl _ => Gk19.plain ns hl
