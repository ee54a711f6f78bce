import PyProof.Rows.All
import Wide.All
import OpenK.AllK
import Wide.FinOn
import HandS.ForMost
import HandS.Walk
import HandS.Exc
import HandS.WordsExc
import HandS.Style
import HandS.Zip
import HandS.TupAny
import HandS.IsInst
import HandS.Wide
import HandS.Deep
import KE.DataMinMax
import KE.SortData
import HandS.TupMul
import HandS.More
import PyProof.ReprRoads
import PyProof.ReprBulk
import HandS.Iter
import KE.GoesNew
import KE.GoesMore
import KE.GoesEnum
import HandS.List
import KE.KRevSl
import HandS.Defaults
import HandS.HeadEnd
import HandS.Star
import HandS.TryOnly
import HandS.Head0
import HandS.Head1
import HandS.Head2
import HandS.HeadHook1
import HandS.HeadHook2
import KE.KStateDown
import HandS.HeadHook3
import PySem.Challenge.RW_evenkept_k13_whole_rows
set_option Elab.async false
set_option linter.all false
set_option maxRecDepth 100000
set_option maxHeartbeats 4000000
namespace EK
open PySem L2

/-! ### data -/
inductive D where
  | non | bl (b : Bool) | int (i : Int) | str (s : List Nat) | tup (xs : List D) | lst (xs : List D)
  | dic (kvs : List (Key × D)) | fn (x : Str) | loc (k : Nat) | frz (xs : List D)
inductive O where
  | lst (ds : List D) | dic (kvs : List (Key × D))
abbrev Sto := List O
abbrev Gam := List (Option D)
/-- what is fixed: the written part, the module's names, the field of each error class -/
structure Ct where
  K : PySem.W.Frag
  mg : Str → Option Value
  fld : Str → Str

/-- addresses apart: those of the store, by number; those that are reserved -/
structure Rg where
  st : List Addr
  ex : List Addr
def Rg.all (ρ : Rg) : List Addr := ρ.st ++ ρ.ex
instance : Membership Addr Rg := ⟨fun ρ a => a ∈ ρ.all⟩
instance (ρ : Rg) (a : Addr) : Decidable (a ∈ ρ) := inferInstanceAs (Decidable (a ∈ ρ.all))
theorem Rg.of_st {ρ : Rg} {a : Addr} (h : a ∈ ρ.st) : a ∈ ρ := List.mem_append_left _ h
theorem Rg.of_ex {ρ : Rg} {a : Addr} (h : a ∈ ρ.ex) : a ∈ ρ := List.mem_append_right _ h
theorem Rg.mem {ρ : Rg} {a : Addr} : a ∈ ρ ↔ a ∈ ρ.st ∨ a ∈ ρ.ex := List.mem_append
def WrT (K : PySem.W.Frag) (a : Addr) (xs : List V) : Prop :=
  ∃ (o : Obj) (its : Array Value) (n : Nat), K.lookup a = some o ∧ o.cls = .type "tuple" ∧ o.data = .seq its n ∧ its.size ≤ sizeLine ∧ Vals xs its.toList
def TupAt (C : Ct) (H : Hp) (ρ : Rg) (a : Addr) (xs : List V) : Prop := (Rd H a (.tup xs) ∧ a ∉ ρ) ∨ WrT C.K a xs
def WrL (K : PySem.W.Frag) (a : Addr) (xs : List V) : Prop :=
  ∃ (o : Obj) (its : Array Value) (n : Nat), K.lookup a = some o ∧ o.cls = .type "list" ∧ o.dict = none ∧ o.data = .seq its n ∧ its.size ≤ sizeLine ∧ Vals xs its.toList
def FrzAt (C : Ct) (H : Hp) (ρ : Rg) (a : Addr) (xs : List V) : Prop := (Rd H a (.lst xs) ∧ a ∉ ρ) ∨ WrL C.K a xs
theorem FrzAt.sq {C : Ct} {H : Hp} {ρ : Rg} {a : Addr} {xs : List V} (h : FrzAt C H ρ a xs) : SqL C.K H a xs := by
  rcases h with h | h
  · exact .inl h.1
  · exact .inr h
def LstAt (H : Hp) (ρ : Rg) (a : Addr) (xs : List V) : Prop := H a = some (.lst xs) ∧ a ∉ ρ
theorem TupAt.sq {C : Ct} {H : Hp} {ρ : Rg} {a : Addr} {xs : List V} (h : TupAt C H ρ a xs) : SqT C.K H a xs := by
  rcases h with h | h
  · exact .inl h.1
  · exact .inr h
theorem LstAt.sq {K : PySem.W.Frag} {H : Hp} {ρ : Rg} {a : Addr} {xs : List V} (h : LstAt H ρ a xs) : SqL K H a xs := .inl (.inl h.1)
mutual
inductive RepD (C : Ct) (H : Hp) (ρ : Rg) : V → D → Prop
  | non : RepD C H ρ .non .non
  | bl (b : Bool) : RepD C H ρ (.bl b) (.bl b)
  | int (i : Int) : RepD C H ρ (.int i) (.int i)
  | str (s : List Nat) : RepD C H ρ (.str ⟨s.toArray⟩) (.str s)
  | tup {a : Addr} {xs : List V} {ds : List D} : TupAt C H ρ a xs → RepA C H ρ xs ds → RepD C H ρ (.ref a) (.tup ds)
  | lst {a : Addr} {xs : List V} {ds : List D} : LstAt H ρ a xs → RepA C H ρ xs ds → RepD C H ρ (.ref a) (.lst ds)
  | dic {a : Addr} {kvs : List (Key × V)} {es : List (Key × D)} : H a = some (.dK kvs) → a ∉ ρ → kvs.map (·.1) = es.map (·.1) → RepA C H ρ (kvs.map (·.2)) (es.map (·.2)) → RepD C H ρ (.ref a) (.dic es)
  | fn {x : Str} {f : Addr} : C.mg x = some (.ref f) → RepD C H ρ (.ref f) (.fn x)
  | frz {a : Addr} {xs : List V} {ds : List D} : FrzAt C H ρ a xs → RepA C H ρ xs ds → RepD C H ρ (.ref a) (.frz ds)
inductive RepA (C : Ct) (H : Hp) (ρ : Rg) : List V → List D → Prop
  | nil : RepA C H ρ [] []
  | cons {v : V} {vs : List V} {d : D} {ds : List D} : RepD C H ρ v d → RepA C H ρ vs ds → RepA C H ρ (v :: vs) (d :: ds)
end
/-- what is outside the store stays, the store's new places were free -/
structure Nx (H : Hp) (ρ : Rg) (H' : Hp) (ρ' : Rg) : Prop where
  kp : ∀ a o, H a = some o → a ∉ ρ.st → H' a = some o
  fr : ∀ a, a ∈ ρ' → a ∈ ρ ∨ H a = none
/-- what is outside all of them stays -/
structure Nw (H : Hp) (ρ : Rg) (H' : Hp) (ρ' : Rg) : Prop where
  kp : ∀ a o, H a = some o → a ∉ ρ → H' a = some o
  fr : ∀ a, a ∈ ρ' → a ∈ ρ ∨ H a = none
section
variable {C : Ct} {H H' H'' : Hp} {ρ ρ' ρ'' : Rg}
theorem Nx.w (N : Nx H ρ H' ρ') : Nw H ρ H' ρ' := ⟨fun a o h n => N.kp a o h fun z => n (Rg.of_st z), N.fr⟩
theorem Nx.refl (H : Hp) (ρ : Rg) : Nx H ρ H ρ := ⟨fun _ _ h _ => h, fun _ h => .inl h⟩
theorem Nw.out (N : Nw H ρ H' ρ') {a : Addr} {o : HO} (h : H a = some o) (ha : a ∉ ρ) : a ∉ ρ' := fun z => by
  rcases N.fr a z with q | q
  · exact ha q
  · rw [h] at q; cases q
/-- the stores' own part of fr -/
def Sub (ρ ρ' : Rg) (H : Hp) : Prop := ∀ a, a ∈ ρ'.st → a ∈ ρ.st ∨ H a = none
theorem Sub.rfl {ρ : Rg} {H : Hp} : Sub ρ ρ H := fun _ h => .inl h
theorem Nx.trans (N : Nx H ρ H' ρ') (M : Nx H' ρ' H'' ρ'') (s : Sub ρ ρ' H := by exact Sub.rfl) : Nx H ρ H'' ρ'' := by
  have out : ∀ a o, H a = some o → a ∉ ρ.st → a ∉ ρ'.st := fun a o h n z => by
    rcases s a z with q | q
    · exact n q
    · rw [h] at q; cases q
  refine ⟨fun a o h ha => M.kp a o (N.kp a o h ha) (out a o h ha), fun a z => ?_⟩
  rcases M.fr a z with q | q
  · exact N.fr a q
  · by_cases ha : a ∈ ρ
    · exact .inl ha
    · right
      cases e : H a with
      | none => rfl
      | some o => rw [N.kp a o e (fun z => ha (Rg.of_st z))] at q; cases q
theorem Nx.new {p : Addr} {o : HO} (h : H p = none) : Nx H ρ (upd H p o) ρ :=
  ⟨fun a u e _ => by rw [upd_ne (ne_of_none e h)]; exact e, fun _ z => .inl z⟩
theorem Nx.mut {p : Addr} {o : HO} (h : p ∈ ρ.st) : Nx H ρ (upd H p o) ρ :=
  ⟨fun a u e ha => by rw [upd_ne (fun z : a = p => ha (by rw [z]; exact h))]; exact e, fun _ z => .inl z⟩
theorem Nw.mut {p : Addr} {o : HO} (h : p ∈ ρ) : Nw H ρ (upd H p o) ρ :=
  ⟨fun a u e ha => by rw [upd_ne (fun z : a = p => ha (by rw [z]; exact h))]; exact e, fun _ z => .inl z⟩
def Rg.grow (ρ : Rg) (p : Addr) : Rg := ⟨ρ.st ++ [p], ρ.ex⟩
def Rg.keep (ρ : Rg) (p : Addr) : Rg := ⟨ρ.st, ρ.ex ++ [p]⟩
theorem Rg.mem_grow {ρ : Rg} {p a : Addr} : a ∈ ρ.grow p ↔ a ∈ ρ ∨ a = p := by
  rw [Rg.mem, Rg.mem]
  show a ∈ ρ.st ++ [p] ∨ a ∈ ρ.ex ↔ _
  rw [List.mem_append, List.mem_singleton]
  constructor
  · rintro ((h | h) | h)
    · exact .inl (.inl h)
    · exact .inr h
    · exact .inl (.inr h)
  · rintro ((h | h) | h)
    · exact .inl (.inl h)
    · exact .inr h
    · exact .inl (.inr h)
theorem Rg.mem_keep {ρ : Rg} {p a : Addr} : a ∈ ρ.keep p ↔ a ∈ ρ ∨ a = p := by
  rw [Rg.mem, Rg.mem]
  show a ∈ ρ.st ∨ a ∈ ρ.ex ++ [p] ↔ _
  rw [List.mem_append, List.mem_singleton]
  constructor
  · rintro (h | (h | h))
    · exact .inl (.inl h)
    · exact .inl (.inr h)
    · exact .inr h
  · rintro ((h | h) | h)
    · exact .inl h
    · exact .inr (.inl h)
    · exact .inr (.inr h)
theorem Nx.grow {p : Addr} {o : HO} (h : H p = none) : Nx H ρ (upd H p o) (ρ.grow p) :=
  ⟨fun a u e _ => by rw [upd_ne (ne_of_none e h)]; exact e, fun a z => by
    rcases Rg.mem_grow.mp z with q | q
    · exact .inl q
    · rw [q]; exact .inr h⟩
theorem Nx.keep {p : Addr} {o : HO} (h : H p = none) : Nx H ρ (upd H p o) (ρ.keep p) :=
  ⟨fun a u e _ => by rw [upd_ne (ne_of_none e h)]; exact e, fun a z => by
    rcases Rg.mem_keep.mp z with q | q
    · exact .inl q
    · rw [q]; exact .inr h⟩
theorem Rd.nw {a : Addr} {u : HO} (N : Nw H ρ H' ρ') (h : Rd H a u) (ha : a ∉ ρ) : Rd H' a u ∧ a ∉ ρ' := by
  rcases h with h | ⟨o, h⟩
  · exact ⟨.inl (N.kp _ _ h ha), N.out h ha⟩
  · exact ⟨.inr ⟨o, N.kp _ _ h ha⟩, N.out h ha⟩
theorem TupAt.nw {a : Addr} {xs : List V} (N : Nw H ρ H' ρ') (h : TupAt C H ρ a xs) : TupAt C H' ρ' a xs := by
  rcases h with h | h
  · exact .inl (Rd.nw N h.1 h.2)
  · exact .inr h
theorem FrzAt.nw {a : Addr} {xs : List V} (N : Nw H ρ H' ρ') (h : FrzAt C H ρ a xs) : FrzAt C H' ρ' a xs := by
  rcases h with h | h
  · exact .inl (Rd.nw N h.1 h.2)
  · exact .inr h
theorem LstAt.nw {a : Addr} {xs : List V} (N : Nw H ρ H' ρ') (h : LstAt H ρ a xs) : LstAt H' ρ' a xs := ⟨N.kp _ _ h.1 h.2, N.out h.1 h.2⟩
mutual
theorem RepD.nw (N : Nw H ρ H' ρ') : ∀ {v : V} {d : D}, RepD C H ρ v d → RepD C H' ρ' v d
  | _, _, .non => .non
  | _, _, .bl b => .bl b
  | _, _, .int i => .int i
  | _, _, .str s => .str s
  | _, _, .tup h r => .tup (h.nw N) (RepA.nw N r)
  | _, _, .lst h r => .lst (h.nw N) (RepA.nw N r)
  | _, _, .dic h ha e r => .dic (N.kp _ _ h ha) (N.out h ha) e (RepA.nw N r)
  | _, _, .fn h => .fn h
  | _, _, .frz h r => .frz (h.nw N) (RepA.nw N r)
theorem RepA.nw (N : Nw H ρ H' ρ') : ∀ {vs : List V} {ds : List D}, RepA C H ρ vs ds → RepA C H' ρ' vs ds
  | _, _, .nil => .nil
  | _, _, .cons h r => .cons (RepD.nw N h) (RepA.nw N r)
end
theorem RepD.nx (N : Nx H ρ H' ρ') {v : V} {d : D} (h : RepD C H ρ v d) : RepD C H' ρ' v d := h.nw N.w
theorem RepA.nx (N : Nx H ρ H' ρ') {vs : List V} {ds : List D} (h : RepA C H ρ vs ds) : RepA C H' ρ' vs ds := h.nw N.w
theorem TupAt.nx {a : Addr} {xs : List V} (N : Nx H ρ H' ρ') (h : TupAt C H ρ a xs) : TupAt C H' ρ' a xs := h.nw N.w
theorem LstAt.nx {a : Addr} {xs : List V} (N : Nx H ρ H' ρ') (h : LstAt H ρ a xs) : LstAt H' ρ' a xs := h.nw N.w
/-- where the store shrinks -/
theorem TupAt.less {a : Addr} {xs : List V} (hs : ∀ a, a ∈ ρ' → a ∈ ρ) (h : TupAt C H ρ a xs) : TupAt C H ρ' a xs := by
  rcases h with h | h
  · exact .inl ⟨h.1, fun z => h.2 (hs _ z)⟩
  · exact .inr h
theorem FrzAt.less {a : Addr} {xs : List V} (hs : ∀ a, a ∈ ρ' → a ∈ ρ) (h : FrzAt C H ρ a xs) : FrzAt C H ρ' a xs := by
  rcases h with h | h
  · exact .inl ⟨h.1, fun z => h.2 (hs _ z)⟩
  · exact .inr h
mutual
theorem RepD.less (hs : ∀ a, a ∈ ρ' → a ∈ ρ) : ∀ {v : V} {d : D}, RepD C H ρ v d → RepD C H ρ' v d
  | _, _, .non => .non
  | _, _, .bl b => .bl b
  | _, _, .int i => .int i
  | _, _, .str s => .str s
  | _, _, .tup h r => .tup (h.less hs) (RepA.less hs r)
  | _, _, .lst h r => .lst ⟨h.1, fun z => h.2 (hs _ z)⟩ (RepA.less hs r)
  | _, _, .dic h ha e r => .dic h (fun z => ha (hs _ z)) e (RepA.less hs r)
  | _, _, .fn h => .fn h
  | _, _, .frz h r => .frz (h.less hs) (RepA.less hs r)
theorem RepA.less (hs : ∀ a, a ∈ ρ' → a ∈ ρ) : ∀ {vs : List V} {ds : List D}, RepA C H ρ vs ds → RepA C H ρ' vs ds
  | _, _, .nil => .nil
  | _, _, .cons h r => .cons (RepD.less hs h) (RepA.less hs r)
end
theorem RepA.length : ∀ {vs : List V} {ds : List D}, RepA C H ρ vs ds → vs.length = ds.length
  | _, _, .nil => rfl
  | _, _, .cons _ r => by rw [List.length_cons, List.length_cons, RepA.length r]
theorem RepA.append : ∀ {vs ws : List V} {ds es : List D}, RepA C H ρ vs ds → RepA C H ρ ws es → RepA C H ρ (vs ++ ws) (ds ++ es)
  | _, _, _, _, .nil, s => s
  | _, _, _, _, .cons h r, s => .cons h (RepA.append r s)
theorem RepA.get : ∀ {vs : List V} {ds : List D} {i : Nat} {v : V}, RepA C H ρ vs ds → vs[i]? = some v → ∃ d, ds[i]? = some d ∧ RepD C H ρ v d
  | _, _, _, _, .nil, e => by simp at e
  | _, _, 0, _, .cons h _, e => by simp at e; subst e; exact ⟨_, rfl, h⟩
  | _, _, i + 1, _, .cons _ r, e => by
    obtain ⟨d, h1, h2⟩ := RepA.get (i := i) r (by simpa using e)
    exact ⟨d, by simpa using h1, h2⟩
theorem RepA.get' : ∀ {vs : List V} {ds : List D} {i : Nat} {d : D}, RepA C H ρ vs ds → ds[i]? = some d → ∃ v, vs[i]? = some v ∧ RepD C H ρ v d
  | _, _, _, _, .nil, e => by simp at e
  | _, _, 0, _, .cons h _, e => by simp at e; subst e; exact ⟨_, rfl, h⟩
  | _, _, i + 1, _, .cons _ r, e => by
    obtain ⟨d, h1, h2⟩ := RepA.get' (i := i) r (by simpa using e)
    exact ⟨d, by simpa using h1, h2⟩
theorem RepA.set : ∀ {vs : List V} {ds : List D} {i : Nat} {v : V} {d : D}, RepA C H ρ vs ds → RepD C H ρ v d → RepA C H ρ (vs.set i v) (ds.set i d)
  | _, _, _, _, _, .nil, _ => .nil
  | _, _, 0, _, _, .cons _ r, h => .cons h r
  | _, _, _ + 1, _, _, .cons q r, h => .cons q (RepA.set r h)
theorem RepA.take : ∀ {vs : List V} {ds : List D} (n : Nat), RepA C H ρ vs ds → RepA C H ρ (vs.take n) (ds.take n)
  | _, _, 0, _ => .nil
  | _, _, _ + 1, .nil => .nil
  | _, _, n + 1, .cons h r => .cons h (RepA.take n r)
theorem RepA.drop : ∀ {vs : List V} {ds : List D} (n : Nat), RepA C H ρ vs ds → RepA C H ρ (vs.drop n) (ds.drop n)
  | _, _, 0, r => r
  | _, _, _ + 1, .nil => .nil
  | _, _, n + 1, .cons _ r => RepA.drop n r
theorem RepA.reverse : ∀ {vs : List V} {ds : List D}, RepA C H ρ vs ds → RepA C H ρ vs.reverse ds.reverse
  | _, _, .nil => .nil
  | _, _, .cons h r => by rw [List.reverse_cons, List.reverse_cons]; exact (RepA.reverse r).append (.cons h .nil)
theorem RepA.rep {vs : List V} {ds : List D} (r : RepA C H ρ vs ds) : ∀ n : Nat, RepA C H ρ (List.replicate n vs).flatten (List.replicate n ds).flatten
  | 0 => .nil
  | n + 1 => by rw [List.replicate_succ, List.replicate_succ, List.flatten_cons, List.flatten_cons]; exact r.append (r.rep n)

/-! ### the store -/
def OAt (C : Ct) (H : Hp) (ρ : Rg) (a : Addr) : O → Prop
  | .lst ds => ∃ xs, H a = some (.lst xs) ∧ RepA C H ρ xs ds
  | .dic es => ∃ kvs : List (Key × V), H a = some (.dK kvs) ∧ kvs.map (·.1) = es.map (·.1) ∧ RepA C H ρ (kvs.map (·.2)) (es.map (·.2))
theorem OAt.nw (N : Nw H ρ H' ρ') {a : Addr} (e : H' a = H a) : ∀ {o : O}, OAt C H ρ a o → OAt C H' ρ' a o
  | .lst _, ⟨xs, h, r⟩ => ⟨xs, e.trans h, r.nw N⟩
  | .dic _, ⟨kvs, h, q, r⟩ => ⟨kvs, e.trans h, q, r.nw N⟩
theorem OAt.less (hs : ∀ a, a ∈ ρ' → a ∈ ρ) {a : Addr} : ∀ {o : O}, OAt C H ρ a o → OAt C H ρ' a o
  | .lst _, ⟨xs, h, r⟩ => ⟨xs, h, r.less hs⟩
  | .dic _, ⟨kvs, h, q, r⟩ => ⟨kvs, h, q, r.less hs⟩
theorem OAt.some {a : Addr} : ∀ {o : O}, OAt C H ρ a o → H a ≠ none
  | .lst _, ⟨_, h, _⟩ => by rw [h]; exact fun z => by cases z
  | .dic _, ⟨_, h, _, _⟩ => by rw [h]; exact fun z => by cases z
structure StOk (C : Ct) (H : Hp) (ρ : Rg) (S : Sto) : Prop where
  len : ρ.st.length = S.length
  nd : ρ.all.Nodup
  at_ : ∀ (k : Nat) (a : Addr) (o : O), ρ.st[k]? = some a → S[k]? = some o → OAt C H ρ a o
  rs : ∀ a, a ∈ ρ.ex → H a ≠ none
variable {S S' : Sto}
theorem StOk.there (s : StOk C H ρ S) {a : Addr} (h : a ∈ ρ) : H a ≠ none := by
  rcases Rg.mem.mp h with h | h
  · obtain ⟨k, hk, e⟩ := List.mem_iff_getElem.mp h
    have h1 : ρ.st[k]? = some a := by rw [List.getElem?_eq_getElem hk, e]
    have h2 : S[k]? = some (S[k]'(by rw [← s.len]; exact hk)) := List.getElem?_eq_getElem _
    exact (s.at_ k a _ h1 h2).some
  · exact s.rs a h
theorem StOk.free (s : StOk C H ρ S) {p : Addr} (h : H p = none) : p ∉ ρ := fun z => s.there z h
theorem StOk.nds (s : StOk C H ρ S) : ρ.st.Nodup := (List.nodup_append.mp s.nd).1
theorem StOk.apart (s : StOk C H ρ S) {a : Addr} (h : a ∈ ρ.st) (h' : a ∈ ρ.ex) : False := (List.nodup_append.mp s.nd).2.2 a h a h' rfl
/-- a new object outside the store -/
theorem StOk.new (s : StOk C H ρ S) {p : Addr} {o : HO} (h : H p = none) : StOk C (upd H p o) ρ S :=
  ⟨s.len, s.nd, fun k a u h1 h2 => (s.at_ k a u h1 h2).nw (Nx.new h).w (upd_ne (fun z => s.free h (z ▸ Rg.of_st (List.mem_of_getElem? h1)))),
    fun a ha => by rw [upd_ne (fun z : a = p => s.free h (by rw [← z]; exact Rg.of_ex ha))]; exact s.rs a ha⟩
/-- an object of the store is changed -/
theorem StOk.mut (s : StOk C H ρ S) {k : Nat} {p : Addr} {o : O} {ho : HO} (hk : ρ.st[k]? = some p) (h : OAt C (upd H p ho) ρ p o) : StOk C (upd H p ho) ρ (S.set k o) := by
  have hp : p ∈ ρ.st := List.mem_of_getElem? hk
  refine ⟨by rw [List.length_set]; exact s.len, s.nd, fun j a u h1 h2 => ?_, fun a ha => ?_⟩
  · by_cases e : j = k
    · subst e
      rw [hk] at h1
      cases h1
      have hj : j < S.length := by rw [← s.len]; exact (List.getElem?_eq_some_iff.mp hk).1
      rw [List.getElem?_set_self hj] at h2
      cases h2
      exact h
    · rw [List.getElem?_set_ne (Ne.symm e)] at h2
      refine (s.at_ j a u h1 h2).nw (Nx.mut hp).w (upd_ne fun z => e ?_)
      subst z
      exact nd_ix s.nds h1 hk
  · rw [upd_ne (fun z : a = p => s.apart hp (by rw [← z]; exact ha))]; exact s.rs a ha
/-- a reserved object is changed -/
theorem StOk.mutEx (s : StOk C H ρ S) {p : Addr} {ho : HO} (hp : p ∈ ρ.ex) : StOk C (upd H p ho) ρ S := by
  refine ⟨s.len, s.nd, fun j a u h1 h2 => ?_, fun a ha => ?_⟩
  · exact (s.at_ j a u h1 h2).nw (Nw.mut (Rg.of_ex hp)) (upd_ne fun z : a = p => s.apart (List.mem_of_getElem? h1) (by rw [z]; exact hp))
  · by_cases e : a = p
    · subst e; rw [upd_same]; exact fun z => by cases z
    · rw [upd_ne e]; exact s.rs a ha
/-- the store grows -/
theorem StOk.grow (s : StOk C H ρ S) {p : Addr} {o : O} {ho : HO} (h : H p = none) (q : OAt C (upd H p ho) (ρ.grow p) p o) : StOk C (upd H p ho) (ρ.grow p) (S ++ [o]) := by
  have hf := s.free h
  refine ⟨by show (ρ.st ++ [p]).length = _; simp [s.len], ?_, fun j a u h1 h2 => ?_, fun a ha => ?_⟩
  · show ((ρ.st ++ [p]) ++ ρ.ex).Nodup
    have nd := s.nd
    unfold Rg.all at nd
    rw [List.nodup_append] at nd ⊢
    refine ⟨?_, nd.2.1, fun a ha b hb => ?_⟩
    · rw [List.nodup_append]
      refine ⟨nd.1, by simp, fun a ha b hb => ?_⟩
      rw [List.mem_singleton.mp hb]
      exact fun z => hf (z ▸ Rg.of_st ha)
    · rcases List.mem_append.mp ha with ha | ha
      · exact nd.2.2 a ha b hb
      · rw [List.mem_singleton.mp ha]
        exact fun z => hf (z ▸ Rg.of_ex hb)
  · have h1 : (ρ.st ++ [p])[j]? = some a := h1
    by_cases e : j < ρ.st.length
    · rw [List.getElem?_append_left e] at h1
      rw [List.getElem?_append_left (by rw [← s.len]; exact e)] at h2
      exact (s.at_ j a u h1 h2).nw (Nx.grow h).w (upd_ne fun z => hf (z ▸ Rg.of_st (List.mem_of_getElem? h1)))
    · have e1 : j = ρ.st.length := by
        have := (List.getElem?_eq_some_iff.mp h1).1
        rw [List.length_append, List.length_singleton] at this
        omega
      subst e1
      rw [List.getElem?_append_right (Nat.le_refl _), Nat.sub_self] at h1
      rw [s.len, List.getElem?_append_right (Nat.le_refl _), Nat.sub_self] at h2
      cases h1
      cases h2
      exact q
  · rw [upd_ne (fun z : a = p => hf (by rw [← z]; exact Rg.of_ex ha))]; exact s.rs a ha
/-- a new object is reserved -/
theorem StOk.keep (s : StOk C H ρ S) {p : Addr} {ho : HO} (h : H p = none) : StOk C (upd H p ho) (ρ.keep p) S := by
  have hf := s.free h
  refine ⟨s.len, ?_, fun j a u h1 h2 => ?_, fun a ha => ?_⟩
  · show (ρ.st ++ (ρ.ex ++ [p])).Nodup
    rw [← List.append_assoc, List.nodup_append]
    refine ⟨s.nd, by simp, fun a ha b hb => ?_⟩
    rw [List.mem_singleton.mp hb]
    exact fun z => hf (by rw [← z]; exact ha)
  · exact (s.at_ j a u h1 h2).nw (Nx.keep h).w (upd_ne fun z => hf (z ▸ Rg.of_st (List.mem_of_getElem? h1)))
  · by_cases e : a = p
    · subst e; rw [upd_same]; exact fun z => by cases z
    · rw [upd_ne e]
      rcases List.mem_append.mp ha with ha | ha
      · exact s.rs a ha
      · exact absurd (List.mem_singleton.mp ha) e
def Rg.cut (ρ : Rg) (n : Nat) : Rg := ⟨ρ.st.take n, ρ.ex⟩
theorem Rg.mem_cut {ρ : Rg} {n : Nat} {a : Addr} (h : a ∈ ρ.cut n) : a ∈ ρ := by
  rcases Rg.mem.mp h with h | h
  · exact Rg.of_st (List.mem_of_mem_take h)
  · exact Rg.of_ex h
theorem StOk.take (s : StOk C H ρ S) (n : Nat) : StOk C H (ρ.cut n) (S.take n) := by
  refine ⟨by show (ρ.st.take n).length = _; simp [s.len], ?_, fun j a u h1 h2 => ?_, s.rs⟩
  · show (ρ.st.take n ++ ρ.ex).Nodup
    have nd := s.nd
    unfold Rg.all at nd
    exact nd.sublist (List.Sublist.append (List.take_sublist _ _) (List.Sublist.refl _))
  · have h1 : (ρ.st.take n)[j]? = some a := h1
    rw [List.getElem?_take] at h1 h2
    split at h1
    · rename_i hj
      rw [if_pos hj] at h2
      exact (s.at_ j a u h1 h2).less fun a z => Rg.mem_cut z
    · cases h1
/-- what was reserved last is let go -/
theorem StOk.unkeep {p : Addr} (s : StOk C H (ρ.keep p) S) : StOk C H ρ S := by
  have hs : ∀ a, a ∈ ρ → a ∈ ρ.keep p := fun a h => Rg.mem_keep.mpr (.inl h)
  refine ⟨s.len, ?_, fun j a u h1 h2 => (s.at_ j a u h1 h2).less hs, fun a ha => s.rs a (List.mem_append_left _ ha)⟩
  have nd : (ρ.st ++ (ρ.ex ++ [p])).Nodup := s.nd
  rw [← List.append_assoc] at nd
  exact (List.nodup_append.mp nd).1
def Rep (C : Ct) (H : Hp) (ρ : Rg) (v : V) (d : D) : Prop := RepD C H ρ v d ∨ ∃ k a, d = .loc k ∧ v = .ref a ∧ ρ.st[k]? = some a
theorem RepD.noloc : ∀ {v : V} {d : D} {k : Nat}, RepD C H ρ v d → d ≠ .loc k := fun h z => by subst z; cases h
/-- ρ' begins as ρ does -/
def Pre (ρ ρ' : Rg) : Prop := ∀ (k : Nat) (a : Addr), ρ.st[k]? = some a → ρ'.st[k]? = some a
theorem Rep.nx (N : Nx H ρ H' ρ') (p : Pre ρ ρ') {v : V} {d : D} (h : Rep C H ρ v d) : Rep C H' ρ' v d := by
  rcases h with h | ⟨k, a, e1, e2, e3⟩
  · exact .inl (h.nx N)
  · exact .inr ⟨k, a, e1, e2, p k a e3⟩
theorem Rep.nx0 (N : Nx H ρ H' ρ) {v : V} {d : D} (h : Rep C H ρ v d) : Rep C H' ρ v d := h.nx N fun _ _ e => e
/-- data as it stands, the store's object read -/
def vw (S : Sto) : D → D
  | .loc k => match S[k]? with
    | some (.lst ds) => .lst ds
    | some (.dic kvs) => .dic kvs
    | none => .loc k
  | d => d
end
end EK

set_option Elab.async false
set_option linter.all false
set_option maxRecDepth 100000
set_option maxHeartbeats 4000000
namespace EK
open PySem PySem.Spec PyProof.Rows L2
/-! ### a tuple, none or one time -/
theorem tm_one (b : Addr) (ws : Array Value) (m : Nat) (q : Option Addr) (z : Array (Option Value)) (k : Int) (t : Tok) (k0 : (decide (k < -(2 ^ 63)) || decide (k ≥ 2 ^ 63)) = false) (k1 : (ws.isEmpty || k == 1) = true) :
    Meets (Builtin.«tuple.__mul__» ⟨[.ref b, .int k t], []⟩) (fun _ W st => st.heap.get? b = some { cls := .type "tuple", dict := q, data := .seq ws m, slots := z } ∧ W (.ok (.ret (Value.ref b))) st) :=
  .of_wp fun P wo Ar W st hh => by
    obtain ⟨h1, h2, h3, h4, h5⟩ := st
    obtain ⟨hb, hh⟩ := hh
    have fi := AutoSeq1.idx_int
    wp_walk using wpAny_loadPart' hb
    repeat (first
      | (refine wpAny_ite_false (decide_eq_false (by rw [k0]; exact Bool.false_ne_true)) ?_; wp_walk using wpAny_loadPart' hb)
      | (refine wpAny_ite_true (decide_eq_true k1) ?_; wp_walk using wpAny_loadPart' hb))
    exact ⟨_, rfl, hh⟩
theorem tm_none (b : Addr) (ws : Array Value) (m : Nat) (q : Option Addr) (z : Array (Option Value)) (k : Int) (t : Tok) (k0 : (decide (k < -(2 ^ 63)) || decide (k ≥ 2 ^ 63)) = false) (k1 : (ws.isEmpty || k == 1) = false) (k2 : (decide (k ≤ 0) || ws.isEmpty) = true) :
    Meets (Builtin.«tuple.__mul__» ⟨[.ref b, .int k t], []⟩) (fun _ W st => st.heap.get? b = some { cls := .type "tuple", dict := q, data := .seq ws m, slots := z } ∧
      W (.ok (.ret (Value.ref st.heap.objs.size))) { st with heap := st.heap.push { cls := Value.type "tuple", data := Data.seq #[] }, toks := st.toks }) :=
  .of_wp fun P wo Ar W st hh => by
    obtain ⟨h1, h2, h3, h4, h5⟩ := st
    obtain ⟨hb, hh⟩ := hh
    have fi := AutoSeq1.idx_int
    wp_walk using wpAny_loadPart' hb
    repeat (first
      | (refine wpAny_ite_false (decide_eq_false (by rw [k0]; exact Bool.false_ne_true)) ?_; wp_walk using wpAny_loadPart' hb)
      | (refine wpAny_ite_false (decide_eq_false (by rw [k1]; exact Bool.false_ne_true)) ?_; wp_walk using wpAny_loadPart' hb)
      | (refine wpAny_ite_true (decide_eq_true k2) ?_; wp_walk using wpAny_loadPart' hb))
    exact ⟨_, rfl, hh⟩
theorem op_tm {X : Cx} : OpR X (binaryOp .Mult) (fun x y H Q => ∃ (b : Addr) (k : Int) (xs : List V), x = .ref b ∧ y = .int k ∧ SqT X.K H b xs ∧ xs ≠ [] ∧ ((k = 1 ∧ Q (.ref b) H) ∨ (k = 0 ∧ ∀ p, H p = none → Q (.ref p) (upd H p (.tup []))))) := by
  intro pn st σ H x y v u Q I r1 r2 hh
  obtain ⟨b, k, xs, rfl, rfl, sq, hne, hq⟩ := hh
  cases r1
  obtain ⟨t, rfl⟩ := r2
  obtain ⟨ws, rv, ⟨⟨oc, q, od, z⟩, hb, e1, m, e2⟩, hs⟩ := I.tuple sq
  dsimp only at e1 e2
  subst e1 e2
  have hw : ws.toArray.isEmpty = false := by
    cases ws with
    | nil => exact absurd (List.eq_nil_of_length_eq_zero rv.length) hne
    | cons _ _ => rfl
  have road := fun (W : Result → Shared → Prop) (mm : codeAny (model X.prog X.w) X.A (.builtin "tuple.__mul__" ⟨[.ref b, .int k t], []⟩) W st) => mm
  rcases hq with ⟨rfl, hq⟩ | ⟨rfl, hq⟩
  · have k1 : (ws.toArray.isEmpty || (1 : Int) == 1) = true := by rw [hw]; rfl
    refine wpAny_binaryOp_repeat_ref (T := "tuple") (U := "int") (by decide) ⟨_, hb, rfl⟩ (fun s2 => typeIs_int s2 1 t) noFill_tuple_mul
      F.fills_int_mul F.slot_int_rmul repeat_tuple F.slot_int_index.lookup ?_
    refine call_meets F.slot_int_rmul (typeIs_int st 1 t) F.entry_int_rmul (F.args_int_rmul_2 _ _) (int_rmul_tuple 1 t b ws.toArray m q z) ⟨hb, rfl, ⟨_, hb, rfl⟩, ?_⟩
    refine call_meets F.slot_tuple_mul ⟨_, hb, rfl⟩ F.entry_tuple_mul (F.args_tuple_mul_2 _ _) (tm_one b ws.toArray m q z 1 t (by decide) k1) ⟨hb, ?_⟩
    exact ⟨.ref b, H, I, rfl, hq⟩
  · have k1 : (ws.toArray.isEmpty || (0 : Int) == 1) = false := by rw [hw]; rfl
    have k2 : (decide ((0 : Int) ≤ 0) || ws.toArray.isEmpty) = true := rfl
    refine wpAny_binaryOp_repeat_ref (T := "tuple") (U := "int") (by decide) ⟨_, hb, rfl⟩ (fun s2 => typeIs_int s2 0 t) noFill_tuple_mul
      F.fills_int_mul F.slot_int_rmul repeat_tuple F.slot_int_index.lookup ?_
    refine call_meets F.slot_int_rmul (typeIs_int st 0 t) F.entry_int_rmul (F.args_int_rmul_2 _ _) (int_rmul_tuple 0 t b ws.toArray m q z) ⟨hb, rfl, ⟨_, hb, rfl⟩, ?_⟩
    refine call_meets F.slot_tuple_mul ⟨_, hb, rfl⟩ F.entry_tuple_mul (F.args_tuple_mul_2 _ _) (tm_none b ws.toArray m q z 0 t (by decide) k1 k2) ⟨hb, ?_⟩
    refine ⟨.ref st.heap.objs.size, _, I.laid (t' := st.toks) (o := .tup []) (fun c oc hc => Heap.get?_push_of_some _ hc) (Nat.le_refl _) ?_, rfl, hq _ (I.hok.fresh (Nat.le_refl _))⟩
    exact ⟨by simp, [], .nil, IsTup.new _ _⟩
end EK

set_option Elab.async false
set_option linter.all false
set_option maxRecDepth 100000
set_option maxHeartbeats 4000000
namespace EK
open PySem L2 PyProof.Rows PySem.Spec

section
variable {C : Ct} {H H' : Hp} {ρ ρ' : Rg} {S : Sto}
/-- what is read: data, or an object of the store -/
def VwR (C : Ct) (H : Hp) (ρ : Rg) (v : V) (d : D) : Prop :=
  RepD C H ρ v d ∨ (∃ a ds, v = .ref a ∧ d = .lst ds ∧ OAt C H ρ a (.lst ds)) ∨ ∃ a es, v = .ref a ∧ d = .dic es ∧ OAt C H ρ a (.dic es)
theorem Rep.vw (h : Rep C H ρ v d) (s : StOk C H ρ S) : VwR C H ρ v (vw S d) := by
  rcases h with h | ⟨k, a, rfl, rfl, hk⟩
  · have e : EK.vw S d = d := by
      cases d <;> first | rfl | exact absurd rfl (h.noloc)
    rw [e]; exact .inl h
  · have hl : k < S.length := by rw [← s.len]; exact (List.getElem?_eq_some_iff.mp hk).1
    have h2 : S[k]? = some S[k] := List.getElem?_eq_getElem hl
    have q := s.at_ k a _ hk h2
    unfold EK.vw
    dsimp only
    rw [h2]
    cases e : S[k] with
    | lst ds => rw [e] at q; exact .inr (.inl ⟨a, ds, rfl, rfl, q⟩)
    | dic es => rw [e] at q; exact .inr (.inr ⟨a, es, rfl, rfl, q⟩)
theorem VwR.int {v : V} {i : Int} (h : VwR C H ρ v (.int i)) : v = .int i := by
  rcases h with h | ⟨_, _, _, e, _⟩ | ⟨_, _, _, e, _⟩
  · cases h; rfl
  · cases e
  · cases e
theorem VwR.bl {v : V} {i : Bool} (h : VwR C H ρ v (.bl i)) : v = .bl i := by
  rcases h with h | ⟨_, _, _, e, _⟩ | ⟨_, _, _, e, _⟩
  · cases h; rfl
  · cases e
  · cases e
theorem VwR.non {v : V} (h : VwR C H ρ v .non) : v = .non := by
  rcases h with h | ⟨_, _, _, e, _⟩ | ⟨_, _, _, e, _⟩
  · cases h; rfl
  · cases e
  · cases e
theorem VwR.str {v : V} {x : List Nat} (h : VwR C H ρ v (.str x)) : v = .str ⟨x.toArray⟩ := by
  rcases h with h | ⟨_, _, _, e, _⟩ | ⟨_, _, _, e, _⟩
  · cases h; rfl
  · cases e
  · cases e
theorem VwR.tup {v : V} {ds : List D} (h : VwR C H ρ v (.tup ds)) : ∃ a xs, v = .ref a ∧ TupAt C H ρ a xs ∧ RepA C H ρ xs ds := by
  rcases h with h | ⟨_, _, _, e, _⟩ | ⟨_, _, _, e, _⟩
  · cases h with | tup h r => exact ⟨_, _, rfl, h, r⟩
  · cases e
  · cases e
theorem VwR.lst {v : V} {ds : List D} (h : VwR C H ρ v (.lst ds)) : ∃ a xs, v = .ref a ∧ H a = some (.lst xs) ∧ RepA C H ρ xs ds := by
  rcases h with h | ⟨a, _, e1, e, q⟩ | ⟨_, _, _, e, _⟩
  · cases h with | lst h r => exact ⟨_, _, rfl, h.1, r⟩
  · cases e
    obtain ⟨xs, q1, q2⟩ := q
    exact ⟨a, xs, e1, q1, q2⟩
  · cases e
theorem VwR.dic {v : V} {es : List (Key × D)} (h : VwR C H ρ v (.dic es)) : ∃ a kvs, v = .ref a ∧ H a = some (.dK kvs) ∧ kvs.map (·.1) = es.map (·.1) ∧ RepA C H ρ (kvs.map (·.2)) (es.map (·.2)) := by
  rcases h with h | ⟨_, _, _, e, _⟩ | ⟨a, _, e1, e, q⟩
  · cases h with | dic h _ e r => exact ⟨_, _, rfl, h, e, r⟩
  · cases e
  · cases e
    obtain ⟨kvs, q1, q2, q3⟩ := q
    exact ⟨a, kvs, e1, q1, q2, q3⟩
theorem VwR.frz {v : V} {ds : List D} (h : VwR C H ρ v (.frz ds)) : ∃ a xs, v = .ref a ∧ SqL C.K H a xs ∧ RepA C H ρ xs ds := by
  rcases h with h | ⟨_, _, _, e, _⟩ | ⟨_, _, _, e, _⟩
  · cases h with | frz h r => exact ⟨_, _, rfl, h.sq, r⟩
  · cases e
  · cases e

/-! ### data as the library's PyData -/
mutual
def py : D → Option PyData
  | .non => some .none
  | .bl b => some (.bool b)
  | .int i => some (.int i)
  | .str s => some (.str ⟨s.toArray⟩)
  | .tup xs => (pyA xs).map .tuple
  | .lst xs => (pyA xs).map .list
  | .dic _ => none
  | .fn _ => none
  | .loc _ => none
  | .frz _ => none
def pyA : List D → Option (List PyData)
  | [] => some []
  | x :: xs => match py x, pyA xs with
    | some p, some ps => some (p :: ps)
    | _, _ => none
end
theorem pyA_cons {x : D} {xs : List D} {ps : List PyData} (h : pyA (x :: xs) = some ps) : ∃ p q, py x = some p ∧ pyA xs = some q ∧ ps = p :: q := by
  rw [pyA] at h
  split at h
  · rename_i p q e1 e2
    cases h
    exact ⟨p, q, e1, e2, rfl⟩
  · cases h
mutual
theorem RepD.dp : ∀ {v : V} {d : D} {p : PyData}, RepD C H ρ v d → py d = some p → Dp C.K H v p
  | _, _, _, .non, e => by rw [py] at e; cases e; exact .non
  | _, _, _, .bl b, e => by rw [py] at e; cases e; exact .bl b
  | _, _, _, .int i, e => by rw [py] at e; cases e; exact .int i
  | _, _, _, .str s, e => by rw [py] at e; cases e; exact .str _
  | _, _, _, .tup (ds := ds) h r, e => by
    rw [py] at e
    cases q : pyA ds with
    | none => rw [q] at e; cases e
    | some ps => rw [q] at e; cases e; exact .tup h.sq (RepA.dp r q)
  | _, _, _, .lst (ds := ds) h r, e => by
    rw [py] at e
    cases q : pyA ds with
    | none => rw [q] at e; cases e
    | some ps => rw [q] at e; cases e; exact .lst h.sq (RepA.dp r q)
  | _, _, _, .dic _ _ _ _, e => by rw [py] at e; cases e
  | _, _, _, .fn _, e => by rw [py] at e; cases e
  | _, _, _, .frz _ _, e => by rw [py] at e; cases e
theorem RepA.dp : ∀ {vs : List V} {ds : List D} {ps : List PyData}, RepA C H ρ vs ds → pyA ds = some ps → DpAll C.K H vs ps
  | _, _, _, .nil, e => by rw [pyA] at e; cases e; exact .nil
  | _, _, _, .cons h r, e => by
    obtain ⟨p, q, e1, e2, rfl⟩ := pyA_cons e
    exact .cons (RepD.dp h e1) (RepA.dp r e2)
end
theorem VwR.dp {v : V} {d : D} {p : PyData} (h : VwR C H ρ v d) (e : py d = some p) : Dp C.K H v p := by
  rcases h with h | ⟨a, ds, rfl, rfl, q⟩ | ⟨a, es, rfl, rfl, q⟩
  · exact h.dp e
  · rw [py] at e
    obtain ⟨xs, q1, q2⟩ := q
    cases z : pyA ds with
    | none => rw [z] at e; cases e
    | some ps => rw [z] at e; cases e; exact .lst (.inl (.inl q1)) (q2.dp z)
  · rw [py] at e; cases e
end

/-! ### operations on values, by data -/
def rP2 (C : Ct) (g : D → D → Option D) : R2 := fun x y H Q => ∃ ρ S d e z, StOk C H ρ S ∧ VwR C H ρ x d ∧ VwR C H ρ y e ∧ g d e = some z ∧
  ∀ v H', Nx H ρ H' ρ → StOk C H' ρ S → RepD C H' ρ v z → Q v H'
def rPn (C : Ct) (g : List D → Option D) : List V → Hp → VK → Prop := fun xs H Q => ∃ ρ S ds z, StOk C H ρ S ∧ Paired (VwR C H ρ) xs ds ∧ g ds = some z ∧
  ∀ v H', Nx H ρ H' ρ → StOk C H' ρ S → RepD C H' ρ v z → Q v H'
abbrev szL : Nat := 16777216
theorem szL_eq : sizeLine = szL := sizeLine_eq

section
variable {X : Cx} {C : Ct} {H : Hp} {ρ : Rg} {S : Sto} {z : D} {Q : VK}
/-- the result is a value that names no new object -/
theorem fin0 (s : StOk C H ρ S) (q : ∀ v H', Nx H ρ H' ρ → StOk C H' ρ S → RepD C H' ρ v z → Q v H') {v : V} (r : RepD C H ρ v z) : Q v H := q v H (Nx.refl H ρ) s r
theorem finL {xs : List V} {ds : List D} (s : StOk C H ρ S) (q : ∀ v H', Nx H ρ H' ρ → StOk C H' ρ S → RepD C H' ρ v (.lst ds) → Q v H') (r : RepA C H ρ xs ds) {p : Addr} (hp : H p = none) : Q (.ref p) (upd H p (.lst xs)) :=
  q _ _ (Nx.new hp) (s.new hp) (.lst ⟨upd_same, s.free hp⟩ (r.nx (Nx.new hp)))
theorem finT {xs : List V} {ds : List D} (s : StOk C H ρ S) (q : ∀ v H', Nx H ρ H' ρ → StOk C H' ρ S → RepD C H' ρ v (.tup ds) → Q v H') (r : RepA C H ρ xs ds) {p : Addr} (hp : H p = none) : Q (.ref p) (upd H p (.tup xs)) :=
  q _ _ (Nx.new hp) (s.new hp) (.tup (.inl ⟨.inl upd_same, s.free hp⟩) (r.nx (Nx.new hp)))

def addD : D → D → Option D
  | .int i, .int j => some (.int (i + j))
  | .str s, .str t => if s.length + t.length ≤ szL then some (.str (s ++ t)) else none
  | .lst xs, .lst ys => if xs.length + ys.length ≤ szL then some (.lst (xs ++ ys)) else none
  | .tup xs, .tup ys => if xs.length + ys.length ≤ szL then some (.tup (xs ++ ys)) else none
  | _, _ => none
theorem str_app (s t : List Nat) : (⟨s.toArray⟩ : Str) ++ (⟨t.toArray⟩ : Str) = ⟨(s ++ t).toArray⟩ := by
  show (⟨s.toArray ++ t.toArray⟩ : Str) = _
  simp
theorem str_len (s : List Nat) : (⟨s.toArray⟩ : Str).length = s.length := by
  show s.toArray.size = _
  simp
theorem op_addP (hK : X.K = C.K) : OpR X (binaryOp .Add) (rP2 C addD) := by
  intro pins s σ H x y v u Q I rx ry h
  obtain ⟨ρ, S, d, e, z, st, hx, hy, hg, q⟩ := h
  unfold addD at hg
  split at hg
  · cases hg
    obtain rfl := hx.int; obtain rfl := hy.int
    exact op_add pins s σ H _ _ v u Q I rx ry ⟨_, _, rfl, rfl, fin0 st q (.int _)⟩
  · split at hg
    · rename_i hl
      cases hg
      obtain rfl := hx.str; obtain rfl := hy.str
      refine op_add_str pins s σ H _ _ v u Q I rx ry ⟨_, _, rfl, rfl, ?_, ?_⟩
      · rw [str_len, str_len, szL_eq]; exact hl
      · rw [str_app]; exact fin0 st q (.str _)
    · cases hg
  · split at hg
    · rename_i hl
      cases hg
      obtain ⟨a, xs, rfl, ha, r1⟩ := hx.lst; obtain ⟨b, ys, rfl, hb, r2⟩ := hy.lst
      refine op_cat pins s σ H _ _ v u Q I rx ry ⟨_, _, _, _, rfl, rfl, ha, hb, ?_, fun p hp => finL st q (r1.append r2) hp⟩
      rw [r1.length, r2.length, szL_eq]; exact hl
    · cases hg
  · split at hg
    · rename_i hl
      cases hg
      obtain ⟨a, xs, rfl, ha, r1⟩ := hx.tup; obtain ⟨b, ys, rfl, hb, r2⟩ := hy.tup
      refine op_catA pins s σ H _ _ v u Q I rx ry ⟨_, _, _, _, rfl, rfl, by rw [hK]; exact ha.sq, by rw [hK]; exact hb.sq, ?_, fun e => ?_, fun _ e => ?_, fun _ _ p hp => finT st q (r1.append r2) hp⟩
      · rw [r1.length, r2.length, szL_eq]; exact hl
      · subst e; cases r1; exact fin0 st q (.tup hb r2)
      · subst e; cases r2; rw [List.append_nil] at q; exact fin0 st q (.tup ha r1)
    · cases hg
  · cases hg

def subD : D → D → Option D
  | .int i, .int j => some (.int (i - j))
  | _, _ => none
theorem op_subP : OpR X (binaryOp .Sub) (rP2 C subD) := by
  intro pins s σ H x y v u Q I rx ry h
  obtain ⟨ρ, S, d, e, z, st, hx, hy, hg, q⟩ := h
  unfold subD at hg
  split at hg
  · cases hg
    obtain rfl := hx.int; obtain rfl := hy.int
    exact op_sub pins s σ H _ _ v u Q I rx ry ⟨_, _, rfl, rfl, fin0 st q (.int _)⟩
  · cases hg
/-! the bounds are asked so that an open number stops the reckoning at once -/
def smallI : Int → Bool
  | .ofNat n => Nat.blt n 18446744073709551616
  | .negSucc n => Nat.blt n 18446744073709551615
def in62 : Int → Bool
  | .ofNat n => Nat.blt n 4611686018427387904
  | .negSucc n => Nat.blt n 4611686018427387904
theorem blt_iff {m n : Nat} : Nat.blt m n = true ↔ m < n := by
  unfold Nat.blt
  rw [Nat.ble_eq]; rfl
theorem in62_iff {i : Int} : in62 i = true ↔ (-(2 ^ 62) ≤ i ∧ i < 2 ^ 62) := by
  cases i with
  | ofNat n =>
    show Nat.blt n _ = true ↔ _
    rw [blt_iff]
    have e : Int.ofNat n = (n : Int) := rfl
    rw [e]; omega
  | negSucc n =>
    show Nat.blt n _ = true ↔ _
    rw [blt_iff, Int.negSucc_eq]; omega
def mulOkB (i j : Int) : Bool := smallI i || smallI j || decide (i.natAbs.log2 + j.natAbs.log2 < 1000000)
theorem smallI_iff {i : Int} : smallI i = true ↔ (-(2 ^ 64) < i ∧ i < 2 ^ 64) := by
  cases i with
  | ofNat n =>
    show Nat.blt n _ = true ↔ _
    rw [blt_iff]
    have e : Int.ofNat n = (n : Int) := rfl
    rw [e]; omega
  | negSucc n =>
    show Nat.blt n _ = true ↔ _
    rw [blt_iff, Int.negSucc_eq]; omega
def mulD : D → D → Option D
  | .int i, .int j => if mulOkB i j = true then some (.int (i * j)) else none
  | .str s, .int n => if n < 1 then (if in62 n = true then some (.str []) else none) else if s.length * n.toNat ≤ szL ∧ n.toNat < 2147483648 then some (.str (List.replicate n.toNat s).flatten) else none
  | .lst xs, .int n => if in62 n = true ∧ xs.length * n.toNat ≤ szL then some (.lst (List.replicate n.toNat xs).flatten) else none
  | .tup xs, .int n => if xs = [] then none else if n = 0 then some (.tup []) else if n = 1 then some (.tup xs) else if 2 ≤ n ∧ n ≤ 1000 ∧ xs.length ≤ 1000 then some (.tup (List.replicate n.toNat xs).flatten) else none
  | _, _ => none
theorem foldl_app (l : List (Array Nat)) : ∀ acc : Array Nat, (l.foldl (· ++ ·) acc).toList = acc.toList ++ (l.map (·.toList)).flatten := by
  induction l with
  | nil => intro acc; simp
  | cons a l ih => intro acc; rw [List.foldl_cons, ih]; simp
theorem txt_mul (s : List Nat) {n : Int} (h : ¬ n < 1) : Txt.mul ⟨s.toArray⟩ n = ⟨((List.replicate n.toNat s).flatten).toArray⟩ := by
  unfold Txt.mul
  rw [if_neg h]
  split
  · rename_i h1
    rw [Bool.or_eq_true] at h1
    rcases h1 with h1 | h1
    · rw [beq_iff_eq] at h1
      subst h1
      show _ = (⟨((List.replicate 1 s).flatten).toArray⟩ : Str)
      simp
    · rw [beq_iff_eq, str_len] at h1
      have : s = [] := List.eq_nil_of_length_eq_zero h1
      subst this
      have : ∀ k, (List.replicate k ([] : List Nat)).flatten = [] := by
        intro k; induction k with
        | zero => rfl
        | succ k ih => rw [List.replicate_succ, List.flatten_cons, ih]; rfl
      rw [this]
  · have e := foldl_app (List.replicate n.toNat s.toArray) #[]
    have e2 : (List.replicate n.toNat s.toArray).foldl (· ++ ·) #[] = ((List.replicate n.toNat s).flatten).toArray := by
      apply Array.toList_inj.mp
      rw [e]
      simp
    show (⟨(List.replicate n.toNat s.toArray).foldl (· ++ ·) #[]⟩ : Str) = _
    rw [e2]
theorem op_mulP (hK : X.K = C.K) : OpR X (binaryOp .Mult) (rP2 C mulD) := by
  intro pins s σ H x y v u Q I rx ry h
  obtain ⟨ρ, S, d, e, z, st, hx, hy, hg, q⟩ := h
  unfold mulD at hg
  split at hg
  · split at hg
    · rename_i hm
      cases hg
      obtain rfl := hx.int; obtain rfl := hy.int
      unfold mulOkB at hm
      rw [Bool.or_eq_true, Bool.or_eq_true, smallI_iff, smallI_iff, decide_eq_true_iff] at hm
      rcases hm with (hm | hm) | hm
      · exact op_mul pins s σ H _ _ v u Q I rx ry ⟨_, _, rfl, rfl, .inl hm, fin0 st q (.int _)⟩
      · exact op_mul pins s σ H _ _ v u Q I rx ry ⟨_, _, rfl, rfl, .inr hm, fin0 st q (.int _)⟩
      · exact op_mulW pins s σ H _ _ v u Q I rx ry ⟨_, _, rfl, rfl, hm, fin0 st q (.int _)⟩
    · cases hg
  · rename_i w n
    obtain rfl := hx.str; obtain rfl := hy.int
    obtain ⟨t, rfl⟩ := rx
    obtain ⟨t', rfl⟩ := ry
    split at hg
    · rename_i h1
      split at hg
      · rename_i h2
        cases hg
        have h2 := (in62_iff.mp h2).1
        refine SB.mul ⟨?_, fun z => absurd h1 z, fun z => absurd h1 z⟩ fun t' k => ?_
        · rw [decide_eq_false (by omega), decide_eq_false (by omega)]; rfl
        · refine ⟨.str ⟨#[]⟩, H, I.tok _, ?_, fin0 st q (.str [])⟩
          have : Txt.mul ⟨w.toArray⟩ n = ⟨#[]⟩ := by unfold Txt.mul; rw [if_pos h1]; rfl
          rw [this]; exact ⟨_, rfl⟩
      · cases hg
    · rename_i h1
      split at hg
      · rename_i h2
        cases hg
        have hn : n < 2 ^ 31 := by have := h2.2; omega
        refine SB.mul ⟨?_, fun _ _ => ?_, fun _ _ => ?_⟩ fun t' k => ?_
        · rw [decide_eq_false (by omega), decide_eq_false (by omega)]; rfl
        · have h3 : w.length * n.toNat ≤ szL := h2.1
          rw [str_len]
          intro h4
          have h6 : (w.length : Int) * n > 2 ^ 63 - 1 := by
            have : (2 ^ 63 - 1) / n < (w.length : Int) := h4
            have := Int.ediv_lt_iff_lt_mul (show 0 < n by omega) |>.mp this
            exact this
          have h7 : ((w.length * n.toNat : Nat) : Int) = (w.length : Int) * n := by
            rw [Int.natCast_mul, Int.toNat_of_nonneg (by omega)]
          have h8 : ((w.length * n.toNat : Nat) : Int) ≤ (szL : Int) := Int.ofNat_le.mpr h3
          have : (szL : Int) = 16777216 := rfl
          omega
        · rw [str_len]
          have h3 : w.length * n.toNat ≤ szL := h2.1
          show decide (_ > sizeLine) = false
          exact decide_eq_false (by rw [szL_eq]; omega)
        · refine ⟨.str ⟨((List.replicate n.toNat w).flatten).toArray⟩, H, I.tok _, ?_, fin0 st q (.str _)⟩
          rw [txt_mul w h1]; exact ⟨_, rfl⟩
      · cases hg
  · split at hg
    · rename_i h1
      cases hg
      obtain ⟨a, xs, rfl, ha, r1⟩ := hx.lst; obtain rfl := hy.int
      obtain ⟨i1, i2⟩ := in62_iff.mp h1.1
      refine op_rep pins s σ H _ _ v u Q I rx ry ⟨_, _, _, rfl, rfl, ha, by omega, by omega, ?_, fun p hp => finL st q (r1.rep _) hp⟩
      rw [r1.length, szL_eq]; exact h1.2
    · cases hg
  · split at hg
    · cases hg
    · rename_i hne
      obtain ⟨a, xs, rfl, ha, r1⟩ := hx.tup; obtain rfl := hy.int
      have hsq : SqT X.K H a xs := by rw [hK]; exact ha.sq
      have hne' : xs ≠ [] := fun e => by
        subst e
        cases r1
        exact hne rfl
      split at hg
      · rename_i h0
        subst h0
        cases hg
        exact op_tm pins s σ H _ _ v u Q I rx ry ⟨_, _, _, rfl, rfl, hsq, hne', .inr ⟨rfl, fun p hp => finT st q .nil hp⟩⟩
      · split at hg
        · rename_i h1
          subst h1
          cases hg
          exact op_tm pins s σ H _ _ v u Q I rx ry ⟨_, _, _, rfl, rfl, hsq, hne', .inl ⟨rfl, fin0 st q (.tup ha r1)⟩⟩
        · split at hg
          · rename_i h2
            cases hg
            exact op_repT pins s σ H _ _ v u Q I rx ry ⟨_, _, _, rfl, rfl, hsq, hne', h2.1, h2.2.1, by rw [r1.length]; exact h2.2.2, fun p hp => finT st q (r1.rep _) hp⟩
          · cases hg
  · cases hg
def fdivD : D → D → Option D
  | .int i, .int j => if 0 < j ∧ j.natAbs.log2 < 9000 then some (.int (i / j)) else none
  | _, _ => none
theorem op_fdivP : OpR X (binaryOp .FloorDiv) (rP2 C fdivD) := by
  intro pins s σ H x y v u Q I rx ry h
  obtain ⟨ρ, S, d, e, z, st, hx, hy, hg, q⟩ := h
  unfold fdivD at hg
  split at hg
  · split at hg
    · rename_i hm
      cases hg
      obtain rfl := hx.int; obtain rfl := hy.int
      exact op_fdivW pins s σ H _ _ v u Q I rx ry ⟨_, _, rfl, rfl, hm, fin0 st q (.int _)⟩
    · cases hg
  · cases hg
def modD : D → D → Option D
  | .int i, .int j => if 0 < j then some (.int (i % j)) else if j < 0 then some (.int (i.fmod j)) else none
  | _, _ => none
theorem op_modP : OpR X (binaryOp .Mod) (rP2 C modD) := by
  intro pins s σ H x y v u Q I rx ry h
  obtain ⟨ρ, S, d, e, z, st, hx, hy, hg, q⟩ := h
  unfold modD at hg
  split at hg
  · obtain rfl := hx.int; obtain rfl := hy.int
    split at hg
    · rename_i hm
      cases hg
      exact op_mod pins s σ H _ _ v u Q I rx ry ⟨_, _, rfl, rfl, hm, fin0 st q (.int _)⟩
    · split at hg
      · rename_i hm
        cases hg
        exact op_modN pins s σ H _ _ v u Q I rx ry ⟨_, _, rfl, rfl, by omega, fin0 st q (.int _)⟩
      · cases hg
  · cases hg
def powD : D → D → Option D
  | .int i, .int j => if 0 ≤ j ∧ j ≤ 1000000 ∧ i.natAbs < 2 ^ 64 then some (.int (i ^ j.toNat)) else none
  | _, _ => none
theorem op_powP : OpR X (binaryOp .Pow) (rP2 C powD) := by
  intro pins s σ H x y v u Q I rx ry h
  obtain ⟨ρ, S, d, e, z, st, hx, hy, hg, q⟩ := h
  unfold powD at hg
  split at hg
  · split at hg
    · rename_i hm
      cases hg
      obtain rfl := hx.int; obtain rfl := hy.int
      exact op_pow pins s σ H _ _ v u Q I rx ry ⟨_, _, rfl, rfl, hm, fin0 st q (.int _)⟩
    · cases hg
  · cases hg
@[simp] def binD : Operator → D → D → Option D
  | .Add => addD
  | .Sub => subD
  | .Mult => mulD
  | .FloorDiv => fdivD
  | .Mod => modD
  | .Pow => powD
  | _ => fun _ _ => none
theorem op_none {f : Value → Value → Sem Value} : OpR X f (rP2 C fun _ _ => none) := by
  intro pins s σ H x y v u Q I rx ry h
  obtain ⟨ρ, S, d, e, z, st, hx, hy, hg, q⟩ := h
  cases hg
theorem op_binP (hK : X.K = C.K) (op : Operator) : OpR X (binaryOp op) (rP2 C (binD op)) := by
  cases op <;> first | exact op_addP hK | exact op_subP | exact op_mulP hK | exact op_fdivP | exact op_modP | exact op_powP | exact op_none
end
end EK

set_option Elab.async false
set_option linter.all false
set_option maxRecDepth 100000
set_option maxHeartbeats 4000000
namespace EK
open PySem L2 PyProof.Rows PySem.Spec
section
variable {X : Cx} {C : Ct} {H : Hp} {ρ : Rg} {S : Sto} {z : D} {Q : VK}
/-! ### comparisons -/
def eqB : D → D → Option Bool
  | .int i, .int j => some (decide (i = j))
  | .str s, .str t => some (decide (s = t))
  | .bl a, .bl b => some (decide (a = b))
  | .non, .non => some true
  | a, b => match py a, py b with
    | some p, some q => if SeqAt.shaped p = true ∧ SeqAt.shaped q = true then some (PyData.eqv p q) else none
    | _, _ => none
theorem str_eq {s t : List Nat} : decide (V.str ⟨s.toArray⟩ = V.str ⟨t.toArray⟩) = decide (s = t) := by
  by_cases h : s = t
  · subst h; simp
  · rw [decide_eq_false h, decide_eq_false]
    intro e
    injection e with e
    injection e with e
    exact h (by simpa using congrArg Array.toList e)
theorem int_eq {i j : Int} : decide (V.int i = V.int j) = decide (i = j) := by
  rw [dec_int, Bool.eq_iff_iff]; simp
theorem bl_eq {i j : Bool} : decide (V.bl i = V.bl j) = decide (i = j) := by
  rw [dec_bl, Bool.eq_iff_iff]; simp
/-- the two rules of == at once: the answer by a Bool -/
theorem eq_core {op : CmpOp} {f : Bool → Bool} (hK : X.K = C.K)
    (h1 : OpR X (compareOp op) (fun x y H Q => scal x y = true ∧ Q (.bl (f (decide (x = y)))) H))
    (h2 : OpR X (compareOp op) (fun x y H Q => ∃ d e, Dp X.K H x d ∧ Dp X.K H y e ∧ SeqAt.shaped d = true ∧ SeqAt.shaped e = true ∧ Q (.bl (f (PyData.eqv d e))) H)) :
    OpR X (compareOp op) (rP2 C fun a b => (eqB a b).map fun k => .bl (f k)) := by
  intro pins s σ H x y v u Q I rx ry h
  obtain ⟨ρ, S, d, e, z, st, hx, hy, hg, q⟩ := h
  dsimp only at hg
  cases hb : eqB d e with
  | none => rw [hb] at hg; cases hg
  | some k =>
    rw [hb] at hg
    cases hg
    unfold eqB at hb
    split at hb
    · cases hb
      obtain rfl := hx.int; obtain rfl := hy.int
      refine h1 pins s σ H _ _ v u Q I rx ry ⟨rfl, ?_⟩
      rw [int_eq]; exact fin0 st q (.bl _)
    · cases hb
      obtain rfl := hx.str; obtain rfl := hy.str
      refine h1 pins s σ H _ _ v u Q I rx ry ⟨rfl, ?_⟩
      rw [str_eq]; exact fin0 st q (.bl _)
    · cases hb
      obtain rfl := hx.bl; obtain rfl := hy.bl
      refine h1 pins s σ H _ _ v u Q I rx ry ⟨rfl, ?_⟩
      rw [bl_eq]; exact fin0 st q (.bl _)
    · cases hb
      obtain rfl := hx.non; obtain rfl := hy.non
      exact h1 pins s σ H _ _ v u Q I rx ry ⟨rfl, fin0 st q (.bl _)⟩
    · split at hb
      · rename_i p r e1 e2
        split at hb
        · rename_i hs
          cases hb
          exact h2 pins s σ H _ _ v u Q I rx ry ⟨p, r, by rw [hK]; exact hx.dp e1, by rw [hK]; exact hy.dp e2, hs.1, hs.2, fin0 st q (.bl _)⟩
        · cases hb
      · cases hb

def nonePy : PyData → Bool
  | .none => true
  | _ => false
/-- a < b: ints, or data that are alike -/
def ltB : D → D → Option Bool
  | .int i, .int j => some (decide (i < j))
  | a, b => match py a, py b with
    | some p, some q => if PySem.W.alike p q = true ∧ nonePy p = false ∧ p.depth ≤ 64 then some (PySem.W.dataLt p q) else none
    | _, _ => none
theorem nonePy_ne {p : PyData} (h : nonePy p = false) : p ≠ .none := by
  intro e; subst e; cases h
theorem lt_core {op : CmpOp} {f : Bool → Bool} (hK : X.K = C.K)
    (h1 : OpR X (compareOp op) (rI0 fun i j => .bl (f (decide (i < j)))))
    (h2 : ∀ (s : Shared) (E : Value → Shared → Prop) (a b : Value) (da db : PyData) (as bs : List Addr) (Q : Value → Shared → Prop), Reads s.heap a da as → Reads s.heap b db bs → PySem.W.alike da db = true → da ≠ .none → X.A.units + min da.depth db.depth < cLine → Q (.bool (f (PySem.W.dataLt da db))) s →
      wpAny (model X.prog X.w) X.A (compareOp op a b) Q E s) (hu : X.A.units + 64 < cLine) :
    OpR X (compareOp op) (rP2 C fun a b => (ltB a b).map fun k => .bl (f k)) := by
  intro pins s σ H x y v u Q I rx ry h
  obtain ⟨ρ, S, d, e, z, st, hx, hy, hg, q⟩ := h
  dsimp only at hg
  cases hb : ltB d e with
  | none => rw [hb] at hg; cases hg
  | some k =>
    rw [hb] at hg
    cases hg
    unfold ltB at hb
    split at hb
    · cases hb
      obtain rfl := hx.int; obtain rfl := hy.int
      exact h1 pins s σ H _ _ v u Q I rx ry ⟨_, _, rfl, rfl, fin0 st q (.bl _)⟩
    · split at hb
      · rename_i p r e1 e2
        split at hb
        · rename_i hs
          cases hb
          obtain ⟨as, r1⟩ := Dp.reads I p x v (by rw [hK]; exact hx.dp e1) rx
          obtain ⟨bs, r2⟩ := Dp.reads I r y u (by rw [hK]; exact hy.dp e2) ry
          exact h2 s _ v u p r as bs _ r1 r2 hs.1 (nonePy_ne hs.2.1) (by have := hs.2.2; have := Nat.min_le_left p.depth r.depth; omega) ⟨.bl _, H, I, rfl, fin0 st q (.bl _)⟩
        · cases hb
      · cases hb
/-- the other way round -/
theorem gt_core {op : CmpOp} {f : Bool → Bool} (hK : X.K = C.K)
    (h1 : OpR X (compareOp op) (rI0 fun i j => .bl (f (decide (j < i)))))
    (h2 : ∀ (s : Shared) (E : Value → Shared → Prop) (a b : Value) (da db : PyData) (as bs : List Addr) (Q : Value → Shared → Prop), Reads s.heap a da as → Reads s.heap b db bs → PySem.W.alike da db = true → da ≠ .none → X.A.units + min da.depth db.depth < cLine → Q (.bool (f (PySem.W.dataLt db da))) s →
      wpAny (model X.prog X.w) X.A (compareOp op a b) Q E s) (hu : X.A.units + 64 < cLine) :
    OpR X (compareOp op) (rP2 C fun a b => (ltB b a).map fun k => .bl (f k)) := by
  intro pins s σ H x y v u Q I rx ry h
  obtain ⟨ρ, S, d, e, z, st, hx, hy, hg, q⟩ := h
  dsimp only at hg
  cases hb : ltB e d with
  | none => rw [hb] at hg; cases hg
  | some k =>
    rw [hb] at hg
    cases hg
    unfold ltB at hb
    split at hb
    · cases hb
      obtain rfl := hx.int; obtain rfl := hy.int
      exact h1 pins s σ H _ _ v u Q I rx ry ⟨_, _, rfl, rfl, fin0 st q (.bl _)⟩
    · split at hb
      · rename_i p r e1 e2
        split at hb
        · rename_i hs
          cases hb
          obtain ⟨as, r1⟩ := Dp.reads I r x v (by rw [hK]; exact hx.dp e2) rx
          obtain ⟨bs, r2⟩ := Dp.reads I p y u (by rw [hK]; exact hy.dp e1) ry
          have ha : PySem.W.alike r p = true := by rw [PySem.W.alike_comm]; exact hs.1
          have hn : r ≠ .none := PySem.W.ne_none_both (x := p) hs.1 (nonePy_ne hs.2.1)
          exact h2 s _ v u r p as bs _ r1 r2 ha hn (by have := hs.2.2; have := Nat.min_le_right r.depth p.depth; omega) ⟨.bl _, H, I, rfl, fin0 st q (.bl _)⟩
        · cases hb
      · cases hb
def flatD : D → Bool
  | .non => true
  | .bl _ => true
  | .int _ => true
  | .str _ => true
  | _ => false
def eqFl : D → D → Bool
  | .non, .non => true
  | .bl a, .bl b => a == b
  | .bl a, .int b => (if a then 1 else 0) == b
  | .int a, .bl b => a == (if b then 1 else 0)
  | .int a, .int b => a == b
  | .str a, .str b => decide (a = b)
  | _, _ => false
theorem RepD.flat {v : V} {d : D} (h : RepD C H ρ v d) (hf : flatD d = true) : flatV v = true := by
  cases h <;> first | rfl | cases hf
theorem RepD.eqFl {v w : V} {d e : D} (h : RepD C H ρ v d) (hd : flatD d = true) (h' : RepD C H ρ w e) (he : flatD e = true) : eqV v w = eqFl d e := by
  cases h <;> first | (cases hd; done) | (cases h' <;> first | rfl | (cases he; done) | (show (Str.mk _ == Str.mk _) = decide _; exact (dec_str.symm.trans str_eq)))
theorem RepA.flat : ∀ {vs : List V} {ds : List D}, RepA C H ρ vs ds → ds.all flatD = true → vs.all flatV = true
  | _, _, .nil, _ => rfl
  | _, _, .cons h r, e => by
    rw [List.all_cons, Bool.and_eq_true] at e
    rw [List.all_cons, Bool.and_eq_true]
    exact ⟨h.flat e.1, RepA.flat r e.2⟩
theorem RepA.anyFl {w : V} {e : D} (h' : RepD C H ρ w e) (he : flatD e = true) : ∀ {vs : List V} {ds : List D}, RepA C H ρ vs ds → ds.all flatD = true → inV w vs = ds.any (fun y => EK.eqFl y e)
  | _, _, .nil, _ => rfl
  | _, _, .cons (v := v) (d := d) h r, a => by
    rw [List.all_cons, Bool.and_eq_true] at a
    have ih := RepA.anyFl h' he r a.2
    unfold inV at ih ⊢
    rw [List.any_cons, List.any_cons, ih, h.eqFl a.1 h' he]
theorem VwR.flatD {v : V} {d : D} (h : VwR C H ρ v d) (hf : EK.flatD d = true) : RepD C H ρ v d := by
  rcases h with h | ⟨_, _, _, rfl, _⟩ | ⟨_, _, _, rfl, _⟩
  · exact h
  · cases hf
  · cases hf
/-- x in y: a sign in a text; flat things in a list or a tuple; data in a list -/
def keyD : D → Option Key
  | .int i => some (.inl i)
  | .str s => some (.inr ⟨s.toArray⟩)
  | _ => none
theorem VwR.key {y : V} {d : D} {k : Key} (h : VwR C H ρ y d) (e : keyD d = some k) : y = kV k := by
  unfold keyD at e
  split at e
  · cases e; exact h.int
  · cases e; exact h.str
  · cases e
/-- whether a dict has a key -/
def hasK (es : List (Key × D)) (k : Key) : Bool := es.any fun kv => decide (kv.1 = k)
theorem hasK_eq {k : Key} : ∀ {kvs : List (Key × V)} {es : List (Key × D)}, kvs.map (·.1) = es.map (·.1) → (valV kvs k).isSome = hasK es k
  | [], [], _ => rfl
  | [], _ :: _, e => by cases e
  | _ :: _, [], e => by cases e
  | p :: kvs, q :: es, e => by
    have e1 : p.1 = q.1 := (List.cons.inj e).1
    have ih := hasK_eq (k := k) (List.cons.inj e).2
    unfold valV hasK at ih ⊢
    rw [List.find?_cons, List.any_cons, e1]
    by_cases hk : q.1 = k
    · rw [decide_eq_true hk]; rfl
    · rw [decide_eq_false hk, Bool.false_or]; exact ih
/-- one text in another one -/
def infB (s t : List Nat) : Bool := (List.range (t.length + 1)).any fun i => decide ((t.drop i).take s.length = s)
theorem infB_ok (s t : List Nat) : (!(Builtin.Str.occurrences ⟨t.toArray⟩ ⟨s.toArray⟩ 0 (⟨t.toArray⟩ : Str).length 1).isEmpty) = infB s t := by
  rw [Bool.eq_iff_iff, PySem.StrLaws.found_iff]
  unfold infB
  rw [List.any_eq_true]
  have l1 : (⟨s.toArray⟩ : Str).length = s.length := by simp [Str.length]
  have l2 : (⟨t.toArray⟩ : Str).length = t.length := by simp [Str.length]
  constructor
  · rintro ⟨i, h1, h2⟩
    rw [PySem.StrLaws.subAt_eq, beq_iff_eq, l1] at h2
    exact ⟨i, List.mem_range.mpr (by omega), decide_eq_true (by simpa using h2)⟩
  · rintro ⟨i, h1, h2⟩
    rw [decide_eq_true_iff] at h2
    refine ⟨i, ?_, ?_⟩
    · have := congrArg List.length h2
      rw [List.length_take, List.length_drop] at this
      have := List.mem_range.mp h1
      omega
    · rw [PySem.StrLaws.subAt_eq, beq_iff_eq, l1]
      simpa using h2
def inB : D → D → Option Bool
  | .str [c], .str t => some (decide (c ∈ t))
  | .str s, .str t => some (infB s t)
  | x, .tup ys => if flatD x = true ∧ ys.all flatD = true then some (ys.any fun y => eqFl y x) else none
  | x, .lst ys => if flatD x = true ∧ ys.all flatD = true then some (ys.any fun y => eqFl y x) else
    match py x, pyA ys with
    | some p, some qs => if SeqAt.shaped p = true ∧ SeqAt.shaped (.list qs) = true then some (qs.any fun z => PyData.eqv z p) else none
    | _, _ => none
  | x, .dic es => (keyD x).map (hasK es)
  | _, _ => none
theorem op_in_dic (hu : X.A.units + 1 < cLine) : OpR X (compareOp .In) (fun x y H Q => ∃ a o, y = .ref a ∧ DGet H a x o ∧ Q (.bl o.isSome) H) := by
  intro pins s σ H x y v u Q I rx ry h
  obtain ⟨a, o, rfl, g, q⟩ := h
  cases ry
  exact d_in hu I g rx fun s' I' => ⟨.bl o.isSome, H, I', rfl, q⟩
theorem op_notIn_dic (hu : X.A.units + 1 < cLine) : OpR X (compareOp .NotIn) (fun x y H Q => ∃ a o, y = .ref a ∧ DGet H a x o ∧ Q (.bl (!o.isSome)) H) := by
  intro pins s σ H x y v u Q I rx ry h
  obtain ⟨a, o, rfl, g, q⟩ := h
  cases ry
  exact d_notIn hu I g rx fun s' I' => ⟨.bl (!o.isSome), H, I', rfl, q⟩
theorem in_core {op : CmpOp} {f : Bool → Bool} (hK : X.K = C.K)
    (h0 : OpR X (compareOp op) (fun x y H Q => ∃ (c : Nat) (z : Str), x = .str ⟨#[c]⟩ ∧ y = .str z ∧ Q (.bl (f (decide (c ∈ z.cps.toList)))) H))
    (h9 : OpR X (compareOp op) (fun x y H Q => ∃ i j, x = .str i ∧ y = .str j ∧ Q (.bl (f (!(Builtin.Str.occurrences j i 0 j.length 1).isEmpty))) H))
    (h1 : OpR X (compareOp op) (fun x y H Q => ∃ p xs, y = .ref p ∧ (SqL X.K H p xs ∨ SqT X.K H p xs) ∧ flatV x = true ∧ xs.all flatV = true ∧ Q (.bl (f (inV x xs))) H))
    (h2 : OpR X (compareOp op) (fun x y H Q => ∃ d ds, Dp X.K H x d ∧ Dp X.K H y (.list ds) ∧ SeqAt.shaped d = true ∧ SeqAt.shaped (.list ds) = true ∧ Q (.bl (f (ds.any fun z => PyData.eqv z d))) H))
    (h3 : OpR X (compareOp op) (fun x y H Q => ∃ a o, y = .ref a ∧ DGet H a x o ∧ Q (.bl (f o.isSome)) H)) :
    OpR X (compareOp op) (rP2 C fun a b => (inB a b).map fun k => .bl (f k)) := by
  intro pins s σ H x y v u Q I rx ry h
  obtain ⟨ρ, S, d, e, z, st, hx, hy, hg, q⟩ := h
  dsimp only at hg
  cases hb : inB d e with
  | none => rw [hb] at hg; cases hg
  | some k =>
    rw [hb] at hg
    cases hg
    unfold inB at hb
    split at hb
    · cases hb
      obtain rfl := hx.str; obtain rfl := hy.str
      exact h0 pins s σ H _ _ v u Q I rx ry ⟨_, _, rfl, rfl, fin0 st q (.bl _)⟩
    · cases hb
      obtain rfl := hx.str; obtain rfl := hy.str
      refine h9 pins s σ H _ _ v u Q I rx ry ⟨_, _, rfl, rfl, ?_⟩
      rw [infB_ok]; exact fin0 st q (.bl _)
    · split at hb
      · rename_i hs
        cases hb
        obtain ⟨a, xs, rfl, ha, r⟩ := hy.tup
        have hd := hx.flatD hs.1
        have e := RepA.anyFl hd hs.1 r hs.2
        refine h1 pins s σ H _ _ v u Q I rx ry ⟨_, _, rfl, .inr (by rw [hK]; exact ha.sq), hd.flat hs.1, r.flat hs.2, ?_⟩
        rw [e]; exact fin0 st q (.bl _)
      · cases hb
    · obtain ⟨a, xs, ey, ha, r⟩ := hy.lst
      split at hb
      · rename_i hs
        cases hb
        subst ey
        have hd := hx.flatD hs.1
        have e := RepA.anyFl hd hs.1 r hs.2
        refine h1 pins s σ H _ _ v u Q I rx ry ⟨_, _, rfl, .inl (.inl (.inl ha)), hd.flat hs.1, r.flat hs.2, ?_⟩
        rw [e]; exact fin0 st q (.bl _)
      · split at hb
        · rename_i p qs e1 e2
          split at hb
          · rename_i hs
            cases hb
            refine h2 pins s σ H _ _ v u Q I rx ry ⟨p, qs, by rw [hK]; exact hx.dp e1, ?_, hs.1, hs.2, fin0 st q (.bl _)⟩
            rw [hK]
            refine hy.dp ?_
            rw [py, e2]; rfl
          · cases hb
        · cases hb
    · cases ek : keyD d with
      | none => rw [ek] at hb; cases hb
      | some kk =>
        rw [ek] at hb
        cases hb
        obtain ⟨a, kvs, rfl, ha, e1, _⟩ := hy.dic
        have hk := hx.key ek
        subst hk
        refine h3 pins s σ H _ _ v u Q I rx ry ⟨a, _, rfl, DGet.k ha, ?_⟩
        rw [hasK_eq e1]; exact fin0 st q (.bl _)
    · cases hb
def isNB : D → D → Option Bool
  | .non, .non => some true
  | .bl _, .non => some false
  | .int _, .non => some false
  | .str _, .non => some false
  | .tup _, .non => some false
  | .lst _, .non => some false
  | .dic _, .non => some false
  | _, _ => none
theorem VwR.isN {x : V} {d : D} {k : Bool} (h : VwR C H ρ x d) (e : isNB d .non = some k) : decide (x = .non) = k := by
  rcases h with h | ⟨a, ds, rfl, rfl, _⟩ | ⟨a, ds, rfl, rfl, _⟩
  · cases h <;> cases e <;> rfl
  · cases e; rfl
  · cases e; rfl
theorem is_core {op : CmpOp} {f : Bool → Bool} (h1 : OpR X (compareOp op) (fun x y H Q => y = .non ∧ Q (.bl (f (decide (x = .non)))) H)) :
    OpR X (compareOp op) (rP2 C fun a b => (isNB a b).map fun k => .bl (f k)) := by
  intro pins s σ H x y v u Q I rx ry h
  obtain ⟨ρ, S, d, e, z, st, hx, hy, hg, q⟩ := h
  dsimp only at hg
  cases hb : isNB d e with
  | none => rw [hb] at hg; cases hg
  | some k =>
    rw [hb] at hg
    cases hg
    have he : e = .non := by unfold isNB at hb; split at hb <;> first | rfl | cases hb
    subst he
    obtain rfl := hy.non
    refine h1 pins s σ H _ _ v u Q I rx ry ⟨rfl, ?_⟩
    rw [hx.isN hb]; exact fin0 st q (.bl _)
def cmpD : CmpOp → D → D → Option D
  | .Eq => fun a b => (eqB a b).map fun k => .bl k
  | .NotEq => fun a b => (eqB a b).map fun k => .bl (!k)
  | .Lt => fun a b => (ltB a b).map fun k => .bl k
  | .LtE => fun a b => (ltB b a).map fun k => .bl (!k)
  | .Gt => fun a b => (ltB b a).map fun k => .bl k
  | .GtE => fun a b => (ltB a b).map fun k => .bl (!k)
  | .In => fun a b => (inB a b).map fun k => .bl k
  | .NotIn => fun a b => (inB a b).map fun k => .bl (!k)
  | .Is => fun a b => (isNB a b).map fun k => .bl k
  | .IsNot => fun a b => (isNB a b).map fun k => .bl (!k)
theorem le_not (i j : Int) : decide (i ≤ j) = !decide (j < i) := by
  by_cases h : i ≤ j
  · rw [decide_eq_true h, decide_eq_false (by omega)]; rfl
  · rw [decide_eq_false h, decide_eq_true (by omega)]; rfl
theorem op_cmpP (hK : X.K = C.K) (hu5 : X.A.units + 65 < cLine) (op : CmpOp) : OpR X (compareOp op) (rP2 C (cmpD op)) := by
  have hu : X.A.units + 64 < cLine := by omega
  cases op with
  | Eq => exact eq_core (f := fun k => k) hK op_eq (op_eqD hu)
  | NotEq => exact eq_core (f := fun k => !k) hK op_ne (op_neD hu)
  | Lt => exact lt_core (f := fun k => k) hK op_lt (fun s E a b da db as bs Q r1 r2 h hn h3 q => PySem.W.lt_data r1 r2 h hn h3 q) hu
  | GtE =>
    refine lt_core (f := fun k => !k) hK ?_ (fun s E a b da db as bs Q r1 r2 h hn h3 q => PySem.W.ge_data r1 r2 h hn h3 q) hu
    have e : (fun i j : Int => V.bl (!decide (i < j))) = fun i j => V.bl (decide (j ≤ i)) := by funext i j; rw [le_not]
    rw [e]; exact op_ge
  | Gt => exact gt_core (f := fun k => k) hK op_gt (fun s E a b da db as bs Q r1 r2 h hn h3 q => PySem.W.gt_data r1 r2 h hn h3 q) hu
  | LtE =>
    refine gt_core (f := fun k => !k) hK ?_ (fun s E a b da db as bs Q r1 r2 h hn h3 q => PySem.W.le_data r1 r2 h hn h3 q) hu
    have e : (fun i j : Int => V.bl (!decide (j < i))) = fun i j => V.bl (decide (i ≤ j)) := by funext i j; rw [le_not]
    rw [e]; exact op_le
  | In =>
    refine in_core (f := fun k => k) hK op_in_sign op_in_str ?_ (op_inD hu5) (op_in_dic (by omega))
    exact op_in_seq
  | NotIn =>
    refine in_core (f := fun k => !k) hK op_notIn_sign op_notIn_str ?_ (op_notInD hu5) (op_notIn_dic (by omega))
    exact op_notIn_seq
  | Is => exact is_core (f := fun k => k) op_isN
  | IsNot => exact is_core (f := fun k => !k) op_notN
end
end EK

set_option Elab.async false
set_option linter.all false
set_option maxRecDepth 100000
set_option maxHeartbeats 4000000
namespace EK
open PySem L2 PyProof.Rows PySem.Spec
section
variable {X : Cx} {C : Ct} {H : Hp} {ρ : Rg} {S : Sto} {z : D} {Q : VK}
/-! ### subscripts -/
def getK (es : List (Key × D)) (k : Key) : Option D := (es.find? fun kv => decide (kv.1 = k)).map (·.2)
/-- the dicts of the module, by name -/
def mdT : List (Str × List (Str × D)) := [("MEANT", [("back", .tup [.str [98, 97], .str [97]]), ("front", .tup [.str [97, 98], .str [97]]), ("swap", .tup [.str [98], .str [97]])])]
def Tabs (K : PySem.W.Frag) (w : World) (C : Ct) : Prop := ∀ (x : Str) (es : List (Str × D)) (a : Addr), mdT.lookup x = some es → C.mg x = some (.ref a) → ∃ ds n, KDict K w a ds n ∧ ∀ z d, es.lookup z = some d → ∃ u v, PySem.W.nsIn K a z = some (some u) ∧ RelV v u ∧ ∀ H ρ, RepD C H ρ v d
def idxD : D → D → Option D
  | .lst xs, .int i => atI xs i
  | .tup xs, .int i => atI xs i
  | .frz xs, .int i => atI xs i
  | .str s, .int i => if s.length ≤ szL then (atI s i).map fun c => .str [c] else none
  | .dic es, k => (keyD k).bind (getK es)
  | .fn x, .str s => (mdT.lookup x).bind fun es => es.lookup ⟨s.toArray⟩
  | _, _ => none
theorem RepA.atI {vs : List V} {ds : List D} {i : Int} {d : D} (r : RepA C H ρ vs ds) (h : L2.atI ds i = some d) : ∃ v, L2.atI vs i = some v ∧ RepD C H ρ v d := by
  unfold L2.atI at h ⊢
  rw [r.length]
  cases e : L2.ixN ds.length i with
  | none => rw [e] at h; cases h
  | some j =>
    rw [e] at h
    exact r.get' (i := j) h
theorem RepA.getK : ∀ {kvs : List (Key × V)} {es : List (Key × D)} {k : Key} {d : D}, kvs.map (·.1) = es.map (·.1) → RepA C H ρ (kvs.map (·.2)) (es.map (·.2)) → EK.getK es k = some d → ∃ v, valV kvs k = some v ∧ RepD C H ρ v d
  | [], [], _, _, _, _, h => by cases h
  | [], _ :: _, _, _, e, _, _ => by cases e
  | _ :: _, [], _, _, e, _, _ => by cases e
  | p :: kvs, q :: es, k, d, e, r, h => by
    have e1 : p.1 = q.1 := (List.cons.inj e).1
    have e2 := (List.cons.inj e).2
    cases r with
    | cons r1 r2 =>
      unfold EK.getK at h
      unfold valV
      rw [List.find?_cons] at h ⊢
      rw [e1]
      by_cases hk : q.1 = k
      · rw [decide_eq_true hk] at h ⊢
        cases h
        exact ⟨_, rfl, r1⟩
      · rw [decide_eq_false hk] at h ⊢
        exact RepA.getK e2 r2 h
theorem ix_dict (hu : X.A.units + 1 < cLine) : IxR X (fun x y H Q => ∃ a v, x = .ref a ∧ DGet H a y (some v) ∧ Q v H) := by
  intro value slice pins s σ H x y v u Q I rx ry h hs
  obtain ⟨a, z, rfl, g, q⟩ := h
  cases rx
  exact tail_any (dict_typeIs I g) PySem.F.slot_dict_getitem.lookup (d_getItem hu I g ry fun w' s3 I3 rw' => ⟨z, H, I3, rw', q⟩) hs
theorem ix_kd {d : Addr} {es : Array DictEntry} {n : Nat} (D : KDict X.K X.w d es n) : IxR X (fun x y H Q => ∃ (z : Str) (u0 : Value) (v0 : V), x = .ref d ∧ y = .str z ∧ PySem.W.nsIn X.K d z = some (some u0) ∧ RelV v0 u0 ∧ Q v0 H) := by
  intro value slice pins s σ H x y v u Q I rx ry h hs
  have h' := h
  obtain ⟨z, u0, v0, rfl, rfl, e, r, q⟩ := h
  have rx' := rx
  cases rx
  exact tail_any (kd_type D I) PySem.F.slot_dict_getitem.lookup (op_item_kd D pins s σ H _ _ _ u Q I rx' ry h') hs
theorem VwR.fn {v : V} {x : Str} (h : VwR C H ρ v (.fn x)) : ∃ f, v = .ref f ∧ C.mg x = some (.ref f) := by
  rcases h with h | ⟨_, _, _, z, _⟩ | ⟨_, _, _, z, _⟩
  · cases h with | fn h => exact ⟨_, rfl, h⟩
  · cases z
  · cases z
theorem ix_P (hK : X.K = C.K) (hu : X.A.units + 65 < cLine) (ht : Tabs X.K X.w C) : IxR X (rP2 C idxD) := by
  intro value slice pins s σ H x y v u Q I rx ry h hs
  obtain ⟨ρ, S, d, e, z, st, hx, hy, hg, q⟩ := h
  unfold idxD at hg
  split at hg
  · obtain ⟨a, xs, rfl, ha, r⟩ := hx.lst; obtain rfl := hy.int
    obtain ⟨w, h1, h2⟩ := r.atI hg
    exact ix_list value slice pins s σ H _ _ v u Q I rx ry ⟨_, _, _, _, rfl, rfl, .inl (.inl ha), h1, fin0 st q h2⟩ hs
  · obtain ⟨a, xs, rfl, ha, r⟩ := hx.tup; obtain rfl := hy.int
    obtain ⟨w, h1, h2⟩ := r.atI hg
    exact ix_tup value slice pins s σ H _ _ v u Q I rx ry ⟨_, _, _, _, rfl, rfl, by rw [hK]; exact ha.sq, h1, fin0 st q h2⟩ hs
  · obtain ⟨a, xs, rfl, ha, r⟩ := hx.frz; obtain rfl := hy.int
    obtain ⟨w, h1, h2⟩ := r.atI hg
    exact ix_list value slice pins s σ H _ _ v u Q I rx ry ⟨_, _, _, _, rfl, rfl, by rw [hK]; exact ha, h1, fin0 st q h2⟩ hs
  · split at hg
    · rename_i hl
      obtain rfl := hx.str; obtain rfl := hy.int
      cases e1 : L2.atI _ _ with
      | none => rw [e1] at hg; cases hg
      | some c =>
        rw [e1] at hg
        cases hg
        exact ix_str value slice pins s σ H _ _ v u Q I rx ry ⟨_, _, c, rfl, rfl, by rw [str_len, szL_eq]; exact hl, e1, fin0 st q (.str [c])⟩ hs
    · cases hg
  · obtain ⟨a, kvs, rfl, ha, ek, r⟩ := hx.dic
    cases e1 : keyD e with
    | none => rw [e1] at hg; cases hg
    | some k =>
      rw [e1] at hg
      obtain ⟨w, h1, h2⟩ := RepA.getK ek r hg
      exact ix_dict (by omega) value slice pins s σ H _ _ v u Q I rx ry ⟨a, w, rfl, .inl ⟨kvs, k, .inl ha, hy.key e1, h1.symm⟩, fin0 st q h2⟩ hs
  · rename_i x' s'
    obtain ⟨f, rfl, hm⟩ := hx.fn
    obtain rfl := hy.str
    cases e1 : mdT.lookup x' with
    | none => rw [e1] at hg; cases hg
    | some es =>
      rw [e1] at hg
      obtain ⟨ds, n, kd, hv⟩ := ht x' es f e1 hm
      obtain ⟨u0, v0, k1, k2, k3⟩ := hv _ _ hg
      exact ix_kd kd value slice pins s σ H _ _ v u Q I rx ry ⟨_, u0, v0, rfl, rfl, k1, k2, fin0 st q (k3 _ _)⟩ hs
  · cases hg
/-! ### slices -/
def cutL {α : Type} (xs : List α) (lo hi : Option Int) : List α := (xs.drop (HT.sIx xs.length 0 lo)).take (HT.sIx xs.length xs.length hi - HT.sIx xs.length 0 lo)
def slD : D → Option Int → Option Int → Option D
  | .lst xs, lo, hi => some (.lst (cutL xs lo hi))
  | .frz xs, lo, hi => some (.lst (cutL xs lo hi))
  | .tup xs, lo, hi => some (.tup (cutL xs lo hi))
  | .str s, lo, hi => if s.length ≤ szL then some (.str (cutL s lo hi)) else none
  | _, _, _ => none
def rPsl (C : Ct) : V → Option Int → Option Int → Hp → VK → Prop := fun x lo hi H Q => ∃ ρ S d z, StOk C H ρ S ∧ VwR C H ρ x d ∧ slD d lo hi = some z ∧
  ∀ v H', Nx H ρ H' ρ → StOk C H' ρ S → RepD C H' ρ v z → Q v H'
theorem RepA.cut {vs : List V} {ds : List D} (r : RepA C H ρ vs ds) (lo hi : Option Int) : RepA C H ρ (cutV vs lo hi) (cutL ds lo hi) := by
  unfold cutV cutL
  rw [r.length]
  exact (r.drop _).take _
theorem sl_P (hK : X.K = C.K) : SlR X (rPsl C) := by
  intro pins s σ H x v vl vu lo hi sl Q I rx hs pl pu h
  obtain ⟨ρ, S, d, z, st, hx, hg, q⟩ := h
  unfold slD at hg
  split at hg
  · cases hg
    obtain ⟨a, xs, rfl, ha, r⟩ := hx.lst
    exact sl_list pins s σ H _ v vl vu _ _ sl Q I rx hs pl pu ⟨a, xs, rfl, .inl (.inl ha), fun p hp => finL st q (r.cut _ _) hp⟩
  · cases hg
    obtain ⟨a, xs, rfl, ha, r⟩ := hx.frz
    exact sl_list pins s σ H _ v vl vu _ _ sl Q I rx hs pl pu ⟨a, xs, rfl, by rw [hK]; exact ha, fun p hp => finL st q (r.cut _ _) hp⟩
  · cases hg
    obtain ⟨a, xs, rfl, ha, r⟩ := hx.tup
    refine sl_tupA pins s σ H _ v vl vu _ _ sl Q I rx hs pl pu ⟨a, xs, rfl, by rw [hK]; exact ha.sq, fun hw => ?_, fun _ p hp => finT st q (r.cut _ _) hp⟩
    have rc := r.cut lo hi
    have e : cutV xs lo hi = xs := by
      unfold cutV
      rw [hw.1, hw.2, List.drop_zero, Nat.sub_zero, List.take_length]
    rw [e] at rc
    exact fin0 st q (.tup ha rc)
  · split at hg
    · rename_i hl
      cases hg
      obtain rfl := hx.str
      refine sl_str pins s σ H _ v vl vu _ _ sl Q I rx hs pl pu ⟨_, rfl, by rw [str_len, szL_eq]; exact hl, ?_⟩
      have e : ∀ w : List Nat, cutS ⟨w.toArray⟩ lo hi = ⟨(cutL w lo hi).toArray⟩ := by
        intro w
        unfold cutS cutL
        rw [str_len]
      rw [e]
      exact fin0 st q (.str _)
    · cases hg
  · cases hg
/-! ### x[::-1] -/
def revD : D → Option D
  | .lst xs => some (.lst xs.reverse)
  | .str s => if s.length ≤ szL then some (.str s.reverse) else none
  | .tup xs => some (.tup xs.reverse)
  | _ => none

/-! ### built-ins on values -/
theorem vw1 {xs : List V} {d : D} (h : Paired (VwR C H ρ) xs [d]) : ∃ x, xs = [x] ∧ VwR C H ρ x d := by
  cases h with
  | cons h r => cases r; exact ⟨_, rfl, h⟩
theorem vw2 {xs : List V} {d e : D} (h : Paired (VwR C H ρ) xs [d, e]) : ∃ x y, xs = [x, y] ∧ VwR C H ρ x d ∧ VwR C H ρ y e := by
  cases h with
  | cons h r => obtain ⟨y, rfl, h2⟩ := vw1 r; exact ⟨_, _, rfl, h, h2⟩
def lenD : List D → Option D
  | [.str s] => if s.length ≤ szL then some (.int s.length) else none
  | [.lst xs] => some (.int xs.length)
  | [.tup xs] => some (.int xs.length)
  | [.frz xs] => some (.int xs.length)
  | _ => none
theorem call_lenP (hK : X.K = C.K) : CallR X (.builtin "len") (rPn C lenD) := by
  intro pins s σ H xs us Q I r h
  obtain ⟨ρ, S, ds, z, st, hx, hg, q⟩ := h
  unfold lenD at hg
  split at hg
  · split at hg
    · rename_i hl
      cases hg
      obtain ⟨x, rfl, hv⟩ := vw1 hx
      obtain rfl := hv.str
      refine call_len pins s σ H _ us Q I r ⟨_, _, rfl, ⟨by rw [str_len, szL_eq]; exact hl, rfl⟩, ?_⟩
      rw [str_len]; exact fin0 st q (.int _)
    · cases hg
  · cases hg
    obtain ⟨x, rfl, hv⟩ := vw1 hx
    obtain ⟨a, ys, rfl, ha, ra⟩ := hv.lst
    refine call_len pins s σ H _ us Q I r ⟨_, _, rfl, .inl ⟨ys, .inl (.inl ha), rfl⟩, ?_⟩
    rw [ra.length]; exact fin0 st q (.int _)
  · cases hg
    obtain ⟨x, rfl, hv⟩ := vw1 hx
    obtain ⟨a, ys, rfl, ha, ra⟩ := hv.tup
    refine call_len pins s σ H _ us Q I r ⟨_, _, rfl, .inr ⟨ys, by rw [hK]; exact ha.sq, rfl⟩, ?_⟩
    rw [ra.length]; exact fin0 st q (.int _)
  · cases hg
    obtain ⟨x, rfl, hv⟩ := vw1 hx
    obtain ⟨a, ys, rfl, ha, ra⟩ := hv.frz
    refine call_len pins s σ H _ us Q I r ⟨_, _, rfl, .inl ⟨ys, by rw [hK]; exact ha, rfl⟩, ?_⟩
    rw [ra.length]; exact fin0 st q (.int _)
  · cases hg
def absD : List D → Option D
  | [.int i] => some (.int (if i < 0 then -i else i))
  | _ => none
theorem call_absP : CallR X (.builtin "abs") (rPn C absD) := by
  intro pins s σ H xs us Q I r h
  obtain ⟨ρ, S, ds, z, st, hx, hg, q⟩ := h
  unfold absD at hg
  split at hg
  · cases hg
    obtain ⟨x, rfl, hv⟩ := vw1 hx
    obtain rfl := hv.int
    exact call_abs pins s σ H _ us Q I r ⟨_, rfl, fin0 st q (.int _)⟩
  · cases hg
def intD : List D → Option D
  | [.int i] => some (.int i)
  | [.bl b] => some (.int (if b then 1 else 0))
  | _ => none
theorem call_intP : CallR X (.type "int") (rPn C intD) := by
  intro pins s σ H xs us Q I r h
  obtain ⟨ρ, S, ds, z, st, hx, hg, q⟩ := h
  unfold intD at hg
  split at hg
  · cases hg
    obtain ⟨x, rfl, hv⟩ := vw1 hx
    obtain rfl := hv.int
    exact call_int1 pins s σ H _ us Q I r (.inl ⟨_, rfl, fin0 st q (.int _)⟩)
  · cases hg
    obtain ⟨x, rfl, hv⟩ := vw1 hx
    obtain rfl := hv.bl
    exact call_int1 pins s σ H _ us Q I r (.inr ⟨_, rfl, fin0 st q (.int _)⟩)
  · cases hg
def intsOf : List D → Option (List Int)
  | [] => some []
  | .int i :: r => (intsOf r).map (i :: ·)
  | _ :: _ => none
theorem intsOf_map (ns : List Int) : intsOf (ns.map .int) = some ns := by
  induction ns with
  | nil => rfl
  | cons n ns ih => rw [List.map_cons, intsOf, ih]; rfl
theorem RepA.ints : ∀ {vs : List V} {ds : List D} {ns : List Int}, RepA C H ρ vs ds → intsOf ds = some ns → vs = ns.map V.int
  | _, _, _, .nil, e => by rw [intsOf] at e; cases e; rfl
  | _, _, _, .cons (d := d) (ds := ds) h r, e => by
    cases d with
    | int i =>
      rw [intsOf] at e
      cases q : intsOf ds with
      | none => rw [q] at e; cases e
      | some m => rw [q] at e; cases e; cases h; rw [List.map_cons, ← RepA.ints r q]
    | _ => cases e
def bools : List D → Option (List Bool)
  | [] => some []
  | .bl i :: r => (bools r).map (i :: ·)
  | _ :: _ => none
theorem bools_map (ns : List Bool) : bools (ns.map .bl) = some ns := by
  induction ns with
  | nil => rfl
  | cons n ns ih => rw [List.map_cons, bools, ih]; rfl
theorem RepA.bools : ∀ {vs : List V} {ds : List D} {ns : List Bool}, RepA C H ρ vs ds → EK.bools ds = some ns → vs = ns.map V.bl
  | _, _, _, .nil, e => by rw [EK.bools] at e; cases e; rfl
  | _, _, _, .cons (d := d) (ds := ds) h r, e => by
    cases d with
    | bl i =>
      rw [EK.bools] at e
      cases q : EK.bools ds with
      | none => rw [q] at e; cases e
      | some m => rw [q] at e; cases e; cases h; rw [List.map_cons, ← RepA.bools r q]
    | _ => cases e
def strsOf : List D → Option (List (List Nat))
  | [] => some []
  | .str i :: r => (strsOf r).map (i :: ·)
  | _ :: _ => none
theorem strsOf_map (ns : List (List Nat)) : strsOf (ns.map .str) = some ns := by
  induction ns with
  | nil => rfl
  | cons n ns ih => rw [List.map_cons, strsOf, ih]; rfl
abbrev mkS (s : List Nat) : Str := ⟨s.toArray⟩
theorem RepA.strs : ∀ {vs : List V} {ds : List D} {ns : List (List Nat)}, RepA C H ρ vs ds → strsOf ds = some ns → vs = (ns.map mkS).map V.str
  | _, _, _, .nil, e => by rw [strsOf] at e; cases e; rfl
  | _, _, _, .cons (d := d) (ds := ds) h r, e => by
    cases d with
    | str i =>
      rw [strsOf] at e
      cases q : strsOf ds with
      | none => rw [q] at e; cases e
      | some m => rw [q] at e; cases e; cases h; rw [List.map_cons, List.map_cons, ← RepA.strs r q]
    | _ => cases e
/-! max, min: two ints; a list of ints; a list of data that are alike -/
def dlt (a b : D) : Bool := match py a, py b with
  | some p, some q => PySem.W.dataLt p q
  | _, _ => false
def alikeB (ps : List PyData) : Bool := ps.all fun x => !nonePy x && ps.all fun y => PySem.W.alike x y
theorem alikeB_ok {ps : List PyData} (h : alikeB ps = true) : PySem.W.AlikeAll ps := by
  unfold alikeB at h
  rw [List.all_eq_true] at h
  refine ⟨fun x hx y hy => ?_, fun x hx => ?_⟩
  · have := h x hx
    rw [Bool.and_eq_true, List.all_eq_true] at this
    exact this.2 y hy
  · have := h x hx
    rw [Bool.and_eq_true] at this
    exact nonePy_ne (by simpa using this.1)
def bestD (lt : D → D → Bool) : List D → Option D
  | [] => none
  | x :: r => match pyA (x :: r) with
    | some ps => if alikeB ps = true ∧ PyData.depthAll ps ≤ 60 ∧ PyData.canLayAll0 ps = true then some (r.foldl (fun a y => if lt a y then y else a) x) else none
    | none => none
def maxD : List D → Option D
  | [.int i, .int j] => some (.int (if j > i then j else i))
  | [.lst xs] => match intsOf xs with
    | some (n :: ns) => some (.int (ns.foldl max n))
    | _ => bestD dlt xs
  | _ => none
def minD : List D → Option D
  | [.int i, .int j] => some (.int (if j < i then j else i))
  | [.lst xs] => match intsOf xs with
    | some (n :: ns) => some (.int (ns.foldl min n))
    | _ => bestD (fun a b => dlt b a) xs
  | _ => none
theorem foldl_max_ge : ∀ (ns : List Int) (n : Int), n ≤ ns.foldl max n ∧ (∀ y ∈ ns, y ≤ ns.foldl max n) ∧ (ns.foldl max n = n ∨ ns.foldl max n ∈ ns)
  | [], n => ⟨Int.le_refl _, (fun _ h => by cases h), .inl rfl⟩
  | m :: ns, n => by
    obtain ⟨h1, h2, h3⟩ := foldl_max_ge ns (max n m)
    rw [List.foldl_cons]
    refine ⟨by omega, fun y hy => ?_, ?_⟩
    · rcases List.mem_cons.mp hy with rfl | hy
      · omega
      · exact h2 y hy
    · rcases h3 with h3 | h3
      · rw [h3]
        by_cases h : n ≤ m
        · right; rw [Int.max_eq_right h]; exact List.mem_cons_self
        · left; exact Int.max_eq_left (by omega)
      · exact .inr (List.mem_cons_of_mem _ h3)
theorem foldl_min_le : ∀ (ns : List Int) (n : Int), ns.foldl min n ≤ n ∧ (∀ y ∈ ns, ns.foldl min n ≤ y) ∧ (ns.foldl min n = n ∨ ns.foldl min n ∈ ns)
  | [], n => ⟨Int.le_refl _, (fun _ h => by cases h), .inl rfl⟩
  | m :: ns, n => by
    obtain ⟨h1, h2, h3⟩ := foldl_min_le ns (min n m)
    rw [List.foldl_cons]
    refine ⟨by omega, fun y hy => ?_, ?_⟩
    · rcases List.mem_cons.mp hy with rfl | hy
      · omega
      · exact h2 y hy
    · rcases h3 with h3 | h3
      · rw [h3]
        by_cases h : m ≤ n
        · right; rw [Int.min_eq_right h]; exact List.mem_cons_self
        · left; exact Int.min_eq_left (by omega)
      · exact .inr (List.mem_cons_of_mem _ h3)
theorem max_unique {n m : Int} {ns : List Int} (h1 : m ∈ n :: ns) (h2 : ∀ y, y ∈ n :: ns → y ≤ m) : m = ns.foldl max n := by
  obtain ⟨a, b, c⟩ := foldl_max_ge ns n
  have h3 : ns.foldl max n ≤ m := by
    rcases c with c | c
    · rw [c]; exact h2 _ List.mem_cons_self
    · exact h2 _ (List.mem_cons_of_mem _ c)
  rcases List.mem_cons.mp h1 with rfl | h1
  · omega
  · have := b m h1; omega
theorem min_unique {n m : Int} {ns : List Int} (h1 : m ∈ n :: ns) (h2 : ∀ y, y ∈ n :: ns → m ≤ y) : m = ns.foldl min n := by
  obtain ⟨a, b, c⟩ := foldl_min_le ns n
  have h3 : m ≤ ns.foldl min n := by
    rcases c with c | c
    · rw [c]; exact h2 _ List.mem_cons_self
    · exact h2 _ (List.mem_cons_of_mem _ c)
  rcases List.mem_cons.mp h1 with rfl | h1
  · omega
  · have := b m h1; omega

mutual
theorem py_inj : ∀ {a b : D} {p : PyData}, py a = some p → py b = some p → a = b
  | .non, b, p, h1, h2 => by
    rw [py] at h1; cases h1
    cases b <;> simp only [py, Option.map_eq_some_iff] at h2 <;> first | rfl | (exfalso; simp at h2)
  | .bl x, b, p, h1, h2 => by
    rw [py] at h1; cases h1
    cases b <;> simp only [py, Option.map_eq_some_iff] at h2 <;> first | (exfalso; simp at h2; done) | (simp at h2; subst h2; rfl)
  | .int x, b, p, h1, h2 => by
    rw [py] at h1; cases h1
    cases b <;> simp only [py, Option.map_eq_some_iff] at h2 <;> first | (exfalso; simp at h2; done) | (simp at h2; subst h2; rfl)
  | .str x, b, p, h1, h2 => by
    rw [py] at h1; cases h1
    cases b <;> simp only [py, Option.map_eq_some_iff] at h2 <;> first | (exfalso; simp at h2; done) | (simp at h2; subst h2; rfl)
  | .tup x, b, p, h1, h2 => by
    rw [py, Option.map_eq_some_iff] at h1
    obtain ⟨q, e, rfl⟩ := h1
    cases b <;> simp only [py, Option.map_eq_some_iff] at h2 <;> first | (exfalso; simp at h2; done) | skip
    obtain ⟨q2, e2, e3⟩ := h2
    cases e3
    rw [pyA_inj e e2]
  | .lst x, b, p, h1, h2 => by
    rw [py, Option.map_eq_some_iff] at h1
    obtain ⟨q, e, rfl⟩ := h1
    cases b <;> simp only [py, Option.map_eq_some_iff] at h2 <;> first | (exfalso; simp at h2; done) | skip
    obtain ⟨q2, e2, e3⟩ := h2
    cases e3
    rw [pyA_inj e e2]
  | .dic _, _, _, h1, _ => by rw [py] at h1; cases h1
  | .fn _, _, _, h1, _ => by rw [py] at h1; cases h1
  | .loc _, _, _, h1, _ => by rw [py] at h1; cases h1
  | .frz _, _, _, h1, _ => by rw [py] at h1; cases h1
theorem pyA_inj : ∀ {a b : List D} {p : List PyData}, pyA a = some p → pyA b = some p → a = b
  | [], b, p, h1, h2 => by
    rw [pyA] at h1; cases h1
    cases b with
    | nil => rfl
    | cons x xs => obtain ⟨_, _, _, _, e⟩ := pyA_cons h2; cases e
  | x :: xs, b, p, h1, h2 => by
    obtain ⟨p1, q1, e1, e2, rfl⟩ := pyA_cons h1
    cases b with
    | nil => rw [pyA] at h2; cases h2
    | cons y ys =>
      obtain ⟨p2, q2, e3, e4, e5⟩ := pyA_cons h2
      cases e5
      rw [py_inj e1 e3, pyA_inj e2 e4]
end
theorem pyA_get : ∀ {ds : List D} {ps : List PyData} {i : Nat} {d : D}, pyA ds = some ps → ds[i]? = some d → ∃ p, ps[i]? = some p ∧ py d = some p
  | [], _, _, _, _, h => by simp at h
  | x :: xs, ps, 0, d, h, e => by
    obtain ⟨p, q, e1, e2, rfl⟩ := pyA_cons h
    simp at e; subst e
    exact ⟨p, rfl, e1⟩
  | x :: xs, ps, i + 1, d, h, e => by
    obtain ⟨p, q, e1, e2, rfl⟩ := pyA_cons h
    obtain ⟨r, h1, h2⟩ := pyA_get (i := i) e2 (by simpa using e)
    exact ⟨r, by simpa using h1, h2⟩
theorem py_fold (lt : D → D → Bool) (plt : PyData → PyData → Bool) (hlt : ∀ a b p q, py a = some p → py b = some q → lt a b = plt p q) : ∀ {r : List D} {x : D} {ps : List PyData} {p : PyData}, py x = some p → pyA r = some ps →
    py (r.foldl (fun a y => if lt a y then y else a) x) = some (ps.foldl (fun a y => if plt a y then y else a) p)
  | [], x, ps, p, h1, h2 => by rw [pyA] at h2; cases h2; exact h1
  | y :: r, x, ps, p, h1, h2 => by
    obtain ⟨p2, q, e1, e2, rfl⟩ := pyA_cons h2
    rw [List.foldl_cons, List.foldl_cons]
    refine py_fold lt plt hlt ?_ e2
    rw [hlt x y p p2 h1 e1]
    split
    · exact e1
    · exact h1
theorem dlt_py {a b : D} {p q : PyData} (h1 : py a = some p) (h2 : py b = some q) : dlt a b = PySem.W.dataLt p q := by
  unfold dlt; rw [h1, h2]
/-- the best of a list of data, by the library's word for max or min -/
theorem best_core {f : Value} {lt : D → D → Bool} {plt : PyData → PyData → Bool} (hK : X.K = C.K) (hc : X.calm = true) (hu : X.A.units + 65 < cLine) (hlt : ∀ a b p q, py a = some p → py b = some q → lt a b = plt p q)
    (rule : ∀ (E : Value → Shared → Prop) (s : Shared) (l : Addr) (vs : Array Value) (x : PyData) (xs : List PyData) (as : List Addr) (Q : Value → Shared → Prop), X.A.handled = none → s.heap.IsList l vs → ReadsAll s.heap vs.toList (x :: xs) as → PySem.W.AlikeAll (x :: xs) → X.A.units + 1 + PyData.depthAll (x :: xs) < cLine →
      (∀ (i : Nat) v h' tk bs, vs[i]? = some v → Reads h' v (xs.foldl (fun a y => if plt a y then y else a) x) bs → (∀ b o, s.heap.get? b = some o → h'.get? b = some o) → Q v { s with heap := h', toks := tk }) → wpAny (model X.prog X.w) X.A (call f [.ref l]) Q E s)
    {pins : List (Addr × Obj)} {s : Shared} {σ : L2.St} {H : Hp} {us : List Value} {Q : VK} (I : L2.Inv X pins σ H s) {ρ : Rg} {S : Sto} {a : Addr} {xs : List V} {ds : List D} {z : D} (st : StOk C H ρ S) (ha : H a = some (.lst xs)) (r : RepA C H ρ xs ds) (hg : bestD lt ds = some z)
    (q : ∀ v H', Nx H ρ H' ρ → StOk C H' ρ S → RepD C H' ρ v z → Q v H') (ru : Vals [.ref a] us) : wpAny (model X.prog X.w) X.A (call f us) (EP X pins σ Q) X.xe s := by
  obtain ⟨u, rfl, rv⟩ := vals1 ru
  cases rv
  obtain ⟨its, rits, pl, _⟩ := I.list (X := X) (xs := xs) (a := a) (.inl (.inl ha))
  cases ds with
  | nil => cases hg
  | cons d0 ds =>
    have hg : (match pyA (d0 :: ds) with | some ps => if alikeB ps = true ∧ PyData.depthAll ps ≤ 60 ∧ PyData.canLayAll0 ps = true then some (ds.foldl (fun a y => if lt a y then y else a) d0) else none | none => none) = some z := hg
    split at hg
    · rename_i ps e
      split at hg
      · rename_i hs
        cases hg
        obtain ⟨p0, qs, e1, e2, rfl⟩ := pyA_cons e
        obtain ⟨as, rd⟩ := Dp.readsAll I (p0 :: qs) xs its (by rw [hK]; exact r.dp e) rits
        refine rule _ s a its.toArray p0 qs as _ (I.ok.hd hc) pl.isList rd (alikeB_ok hs.1) (by have := hs.2.1; omega) fun i v h' tk bs hi hrd hk => ?_
        have hi' : its[i]? = some v := by simpa using hi
        have hlen : i < xs.length := by rw [rits.length]; exact (List.getElem?_eq_some_iff.mp hi').1
        obtain ⟨u2, hu2, rv2⟩ := rits.get (List.getElem?_eq_getElem hlen)
        rw [hi'] at hu2
        cases hu2
        obtain ⟨d, hd, rd'⟩ := r.get (List.getElem?_eq_getElem hlen)
        obtain ⟨p, hp, hpd⟩ := pyA_get e hd
        obtain ⟨bs2, hr2, _⟩ := PySem.W.readsAll_atA rd i v hi
        have hp2 : (p0 :: qs).getD i PyData.none = p := by rw [List.getD_eq_getElem?_getD, hp]; rfl
        rw [hp2] at hr2
        have eq := (Reads.unique (PySem.W.reads_keeps hk hr2) _ _ hrd).1
        have ez := py_fold lt plt hlt (r := ds) (x := d0) e1 e2
        rw [← eq] at ez
        have := py_inj hpd ez
        subst this
        exact ⟨_, H, I.kept hk, rv2, fin0 st q rd'⟩
      · cases hg
    · cases hg
theorem call_maxP (hK : X.K = C.K) (hc : X.calm = true) (hu : X.A.units + 65 < cLine) : CallR X (.builtin "max") (rPn C maxD) := by
  intro pins s σ H xs us Q I r h
  obtain ⟨ρ, S, ds, z, st, hx, hg, q⟩ := h
  unfold maxD at hg
  split at hg
  · cases hg
    obtain ⟨x, y, rfl, hv, hw⟩ := vw2 hx
    obtain rfl := hv.int; obtain rfl := hw.int
    exact call_max2 hc pins s σ H _ us Q I r ⟨_, _, rfl, fin0 st q (.int _)⟩
  · obtain ⟨x, rfl, hv⟩ := vw1 hx
    obtain ⟨a, ys, rfl, ha, ra⟩ := hv.lst
    split at hg
    · rename_i n ns e
      cases hg
      have ey := ra.ints e
      refine cr_max hc pins s σ H _ us Q I r ⟨a, n :: ns, rfl, .inl (.inl (by rw [← ey]; exact ha)), by simp, fun m h1 h2 => ?_⟩
      rw [max_unique h1 h2]
      exact fin0 st q (.int _)
    · exact best_core hK hc hu (fun a b p q h1 h2 => dlt_py h1 h2) (fun E s l vs x xs as Q a1 a2 a3 a4 a5 a6 => PySem.W.max_list_data a1 a2 a3 a4 a5 a6) I st ha ra hg q r
  · cases hg
theorem call_minP (hK : X.K = C.K) (hc : X.calm = true) (hu : X.A.units + 65 < cLine) : CallR X (.builtin "min") (rPn C minD) := by
  intro pins s σ H xs us Q I r h
  obtain ⟨ρ, S, ds, z, st, hx, hg, q⟩ := h
  unfold minD at hg
  split at hg
  · cases hg
    obtain ⟨x, y, rfl, hv, hw⟩ := vw2 hx
    obtain rfl := hv.int; obtain rfl := hw.int
    exact call_min2 hc pins s σ H _ us Q I r ⟨_, _, rfl, fin0 st q (.int _)⟩
  · obtain ⟨x, rfl, hv⟩ := vw1 hx
    obtain ⟨a, ys, rfl, ha, ra⟩ := hv.lst
    split at hg
    · rename_i n ns e
      cases hg
      have ey := ra.ints e
      refine cr_min hc pins s σ H _ us Q I r ⟨a, n :: ns, rfl, .inl (.inl (by rw [← ey]; exact ha)), by simp, fun m h1 h2 => ?_⟩
      rw [min_unique h1 h2]
      exact fin0 st q (.int _)
    · exact best_core (plt := fun a b => PySem.W.dataLt b a) hK hc hu (fun a b p q h1 h2 => dlt_py h2 h1) (fun E s l vs x xs as Q a1 a2 a3 a4 a5 a6 => PySem.W.min_list_data a1 a2 a3 a4 a5 a6) I st ha ra hg q r
  · cases hg
def sumD : List D → Option D
  | [.lst xs] => (intsOf xs).map fun ns => .int ns.sum
  | _ => none
theorem call_sumP (hK : X.K = C.K) (hc : X.calm = true) : CallR X (.builtin "sum") (rPn C sumD) := by
  intro pins s σ H xs us Q I r h
  obtain ⟨ρ, S, ds, z, st, hx, hg, q⟩ := h
  unfold sumD at hg
  split at hg
  · obtain ⟨x, rfl, hv⟩ := vw1 hx
    obtain ⟨a, ys, rfl, ha, ra⟩ := hv.lst
    rw [Option.map_eq_some_iff] at hg
    obtain ⟨ns, e, rfl⟩ := hg
    exact cr_sum hc pins s σ H _ us Q I r ⟨a, ns, rfl, .inl (.inl (by rw [← ra.ints e]; exact ha)), fin0 st q (.int _)⟩
  · cases hg
def allD : List D → Option D
  | [.lst xs] => (bools xs).map fun ns => .bl (ns.all id)
  | _ => none
def anyD : List D → Option D
  | [.lst xs] => (bools xs).map fun ns => .bl (ns.any id)
  | _ => none
theorem call_allP (hc : X.calm = true) : CallR X (.builtin "all") (rPn C allD) := by
  intro pins s σ H xs us Q I r h
  obtain ⟨ρ, S, ds, z, st, hx, hg, q⟩ := h
  unfold allD at hg
  split at hg
  · obtain ⟨x, rfl, hv⟩ := vw1 hx
    obtain ⟨a, ys, rfl, ha, ra⟩ := hv.lst
    rw [Option.map_eq_some_iff] at hg
    obtain ⟨ns, e, rfl⟩ := hg
    exact cr_all hc pins s σ H _ us Q I r ⟨a, ns, rfl, .inl (.inl (by rw [← ra.bools e]; exact ha)), fin0 st q (.bl _)⟩
  · cases hg
theorem call_anyP (hc : X.calm = true) : CallR X (.builtin "any") (rPn C anyD) := by
  intro pins s σ H xs us Q I r h
  obtain ⟨ρ, S, ds, z, st, hx, hg, q⟩ := h
  unfold anyD at hg
  split at hg
  · obtain ⟨x, rfl, hv⟩ := vw1 hx
    obtain ⟨a, ys, rfl, ha, ra⟩ := hv.lst
    rw [Option.map_eq_some_iff] at hg
    obtain ⟨ns, e, rfl⟩ := hg
    exact cr_any hc pins s σ H _ us Q I r ⟨a, ns, rfl, .inl (.inl (by rw [← ra.bools e]; exact ha)), fin0 st q (.bl _)⟩
  · cases hg
def listD : List D → Option D
  | [.lst xs] => some (.lst xs)
  | [.tup xs] => some (.lst xs)
  | [.frz xs] => some (.lst xs)
  | _ => none
theorem call_listP (hK : X.K = C.K) : CallR X (.type "list") (rPn C listD) := by
  intro pins s σ H xs us Q I r h
  obtain ⟨ρ, S, ds, z, st, hx, hg, q⟩ := h
  unfold listD at hg
  split at hg
  · cases hg
    obtain ⟨x, rfl, hv⟩ := vw1 hx
    obtain ⟨a, ys, rfl, ha, ra⟩ := hv.lst
    exact call_list_of pins s σ H _ us Q I r ⟨a, ys, rfl, .inl (.inl (.inl ha)), fun l hl => finL st q ra hl⟩
  · cases hg
    obtain ⟨x, rfl, hv⟩ := vw1 hx
    obtain ⟨a, ys, rfl, ha, ra⟩ := hv.tup
    exact call_list_of pins s σ H _ us Q I r ⟨a, ys, rfl, .inr (by rw [hK]; exact ha.sq), fun l hl => finL st q ra hl⟩
  · cases hg
    obtain ⟨x, rfl, hv⟩ := vw1 hx
    obtain ⟨a, ys, rfl, ha, ra⟩ := hv.frz
    exact call_list_of pins s σ H _ us Q I r ⟨a, ys, rfl, .inl (by rw [hK]; exact ha), fun l hl => finL st q ra hl⟩
  · cases hg
def tupleD : List D → Option D
  | [.lst xs] => some (.tup xs)
  | [.tup xs] => some (.tup xs)
  | _ => none
theorem call_tupleP (hK : X.K = C.K) : CallR X (.type "tuple") (rPn C tupleD) := by
  intro pins s σ H xs us Q I r h
  obtain ⟨ρ, S, ds, z, st, hx, hg, q⟩ := h
  unfold tupleD at hg
  split at hg
  · cases hg
    obtain ⟨x, rfl, hv⟩ := vw1 hx
    obtain ⟨a, ys, rfl, ha, ra⟩ := hv.lst
    exact call_tuple_of pins s σ H _ us Q I r ⟨a, ys, rfl, .inl ⟨.inl (.inl ha), fun l hl => finT st q ra hl⟩⟩
  · cases hg
    obtain ⟨x, rfl, hv⟩ := vw1 hx
    obtain ⟨a, ys, rfl, ha, ra⟩ := hv.tup
    exact call_tuple_of pins s σ H _ us Q I r ⟨a, ys, rfl, .inr ⟨by rw [hK]; exact ha.sq, fin0 st q (.tup ha ra)⟩⟩
  · cases hg
end
end EK

set_option Elab.async false
set_option linter.all false
set_option maxRecDepth 100000
set_option maxHeartbeats 4000000
namespace EK
open PySem L2 PySem.Spec PyProof.Rows
/-! ### repr of data -/
def dep60 (p : PyData) : Bool := Nat.ble p.depth 60
def shownL (p : PyData) : List Nat := p.shown.cps.toList
def reprD : List D → Option D
  | [d] => match py d with
    | some p => if PyData.showable p = true ∧ dep60 p = true ∧ (shownL p).length ≤ szL then some (.str (shownL p)) else none
    | none => none
  | _ => none
mutual
theorem py_noDict : ∀ {d : D} {p : PyData}, py d = some p → p.hasDict = false
  | .non, p, h => by cases h; rfl
  | .bl b, p, h => by cases h; rfl
  | .int i, p, h => by cases h; rfl
  | .str s, p, h => by cases h; rfl
  | .tup xs, p, h => by
    rw [py] at h
    cases e : pyA xs with
    | none => rw [e] at h; cases h
    | some ps => rw [e] at h; cases h; rw [PyData.hasDict]; exact pyA_noDict e
  | .lst xs, p, h => by
    rw [py] at h
    cases e : pyA xs with
    | none => rw [e] at h; cases h
    | some ps => rw [e] at h; cases h; rw [PyData.hasDict]; exact pyA_noDict e
  | .dic _, p, h => by cases h
  | .fn _, p, h => by cases h
  | .loc _, p, h => by cases h
  | .frz _, p, h => by cases h
theorem pyA_noDict : ∀ {ds : List D} {ps : List PyData}, pyA ds = some ps → PyData.hasDictAll ps = false
  | [], ps, h => by cases h; rfl
  | d :: ds, ps, h => by
    obtain ⟨p, q, e1, e2, rfl⟩ := pyA_cons h
    rw [PyData.hasDictAll, py_noDict e1, pyA_noDict e2]; rfl
end
section
variable {X : Cx} {C : Ct}
theorem str_back (x : Str) : (⟨x.cps.toList.toArray⟩ : Str) = x := by cases x; simp
theorem call_reprP (hK : X.K = C.K) (gd : X.A.guards = some []) (hu : X.A.units + 65 < cLine) : CallR X (.builtin "repr") (rPn C reprD) := by
  intro pins s σ H xs us Q I r h
  obtain ⟨ρ, S, ds, z, st, hx, hg, q⟩ := h
  unfold reprD at hg
  split at hg
  · rename_i d
    split at hg
    · rename_i p ep
      split at hg
      · rename_i hc
        obtain ⟨h1, h2, h3⟩ := hc
        cases hg
        obtain ⟨x, rfl, hv⟩ := vw1 hx
        have dp := hv.dp ep
        rw [← hK] at dp
        obtain ⟨u, rfl, ru⟩ := vals1 r
        obtain ⟨as, rd⟩ := Dp.reads I p x u dp ru
        have hz : p.shown.length ≤ sizeLine := by
          have : p.shown.length = (shownL p).length := by unfold shownL; exact Array.size_eq_length_toList
          rw [this, szL_eq]; exact h3
        have hd : p.depth ≤ 60 := Nat.le_of_ble_eq_true h2
        have fin : ∀ (h' : Heap) (t tk : Nat), (∀ b o, s.heap.get? b = some o → h'.get? b = some o) → EP X pins σ Q (.str p.shown t) { s with heap := h', toks := tk } := by
          intro h' t tk keep
          refine ⟨.str p.shown, H, I.kept keep, ⟨_, rfl⟩, ?_⟩
          have := fin0 st q (.str (shownL p))
          rw [show (⟨(shownL p).toArray⟩ : Str) = p.shown from str_back _] at this
          exact this
        cases u with
        | ref a => exact PySem.repr_of_reads' rd h1 (fun z => by rw [py_noDict ep] at z; cases z) gd (by omega) (fun _ _ e => e) (fun h' t tk keep => fin h' t tk keep) hz
        | none =>
          cases rd
          exact P.repr_of_none (fin s.heap _ _ fun _ _ e => e)
        | bool b =>
          cases rd
          have := fin s.heap s.toks (s.toks + 1) fun _ _ e => e
          rw [PyData.shown_bool] at this
          exact P.repr_of_bool this
        | int i t =>
          cases rd
          have := fin s.heap s.toks (s.toks + 1) fun _ _ e => e
          rw [PyData.shown_int] at this
          refine P.repr_of_int ?_ this
          rw [PyData.showable] at h1
          exact of_decide_eq_true h1
        | str y t =>
          cases rd
          have := fin s.heap s.toks (s.toks + 1) fun _ _ e => e
          rw [PyData.shown_str] at this hz
          exact P.repr_of_str this hz
        | _ => cases rd
      · cases hg
    · cases hg
  · cases hg
end
end EK

set_option Elab.async false
set_option linter.all false
set_option maxRecDepth 100000
set_option maxHeartbeats 4000000
namespace EK
open PySem PySem.W L2 PySem.Spec PyProof.Rows
/-! ### zip and enumerate over anything that stands still -/
/-- what is walked: a list, a tuple, a text -/
inductive Kd where
  | l (a : Addr) | t (a : Addr) | s (z : Str)
def Kd.v : Kd → V
  | .l a => .ref a
  | .t a => .ref a
  | .s z => .str z
def Kd.at_ (K : PySem.W.Frag) (H : Hp) : Kd → List V → Prop
  | .l a, xs => SqL K H a xs
  | .t a, xs => SqT K H a xs
  | .s z, xs => xs = z.cps.toList.map fun c => V.str ⟨#[c]⟩
/-- the iterator of such a thing, at turn i -/
def Kd.tn : Kd → Value → Addr → Nat → Heap → Prop
  | .l a, _, it, i, h => h.IsListIter it a i
  | .t a, _, it, i, h => h.IsTupleIter it a i
  | .s z, u, it, i, h => ∃ t, u = .str z t ∧ h.IsStrIter it (strIterType z) z t i
def Kd.fp : Kd → List Addr
  | .l a => [a]
  | .t a => [a]
  | .s _ => []
/-- such a thing as it stands now: what begins, what is drawn -/
structure Src (k : Kd) (u : Value) (xs : List V) (s : Heap) : Prop where
  ex : ∃ (o : Obj) (S : Heap → Prop), S s ∧ Begins u o S ∧ (∀ (h : Heap) (it : Addr), h.get? it = some o → k.tn u it 0 h) ∧
    ∀ (P : Program) (w : World) (A : Around) (it : Addr), A.handled = none → it ∉ k.fp → Draws P w A it (it :: k.fp) xs.length (fun i y => ∃ x, xs[i]? = some x ∧ RelV x y) (fun i h => k.tn u it i h ∧ S h)
  low : ∀ b ∈ k.fp, b < s.objs.size
theorem drawsImp {P : Program} {w : World} {A : Around} {it : Addr} {fp : List Addr} {n m : Nat} {Y Y' : Nat → Value → Prop} {St St' : Nat → Heap → Prop} (D : Draws P w A it fp n Y St) (e : n = m) (hy : ∀ i y, Y i y → Y' i y) (hs : ∀ i h, St i h ↔ St' i h) : Draws P w A it fp m Y' St' := by
  have es : St = St' := funext fun i => funext fun h => propext (hs i h)
  subst es e
  exact ⟨D.live, D.frame, fun i s Q E hi st q => D.item i s Q E hi st fun x h' tk y st' sb => q x h' tk (hy i x y) st' sb, D.done⟩
section
variable {X : Cx} {pins : List (Addr × Obj)} {σ : L2.St} {H : Hp} {s : Shared}
theorem valsAt {xs : List V} {us : List Value} (h : Vals xs us) {i : Nat} {y : Value} (e : us[i]? = some y) : ∃ x, xs[i]? = some x ∧ RelV x y := by
  induction h generalizing i with
  | nil => simp at e
  | cons a r ih =>
    cases i with
    | zero => simp at e; subst e; exact ⟨_, rfl, a⟩
    | succ j => simpa using ih (by simpa using e)
theorem src_of (I : Inv X pins σ H s) {k : Kd} {u : Value} {xs : List V} (h : k.at_ X.K H xs) (r : RelV k.v u) : Src k u xs s.heap := by
  cases k with
  | l a =>
    have h : SqL X.K H a xs := h
    obtain ⟨its, rv, pl, _⟩ := I.list h
    have r : u = .ref a := r
    subst r
    have hl := rv.length
    refine ⟨⟨_, _, pl.isList, begins_list a its.toArray, fun h it e => ⟨_, e, rfl, rfl⟩, fun P w A it hh hn => ?_⟩, fun b hb => ?_⟩
    · refine drawsImp (Draws.list hh it a (fun z => hn (by rw [← z]; exact List.mem_singleton_self a)) its.toArray) (by simp [hl]) (fun i y e => valsAt rv (by simpa using e)) fun i h => Iff.rfl
    · rw [List.mem_singleton.mp hb]
      obtain ⟨o, ho, _⟩ := pl.isList
      exact Heap.lt_size ho
  | t a =>
    have h : SqT X.K H a xs := h
    obtain ⟨its, rv, pl, _⟩ := I.tuple h
    have r : u = .ref a := r
    subst r
    have hl := rv.length
    have pl : s.heap.IsTuple a its.toArray := pl
    refine ⟨⟨_, _, pl, begins_tuple a its.toArray, fun h it e => ⟨_, e, rfl, rfl⟩, fun P w A it hh hn => ?_⟩, fun b hb => ?_⟩
    · refine drawsImp (Draws.tuple hh it a (fun z => hn (by rw [← z]; exact List.mem_singleton_self a)) its.toArray) (by simp [hl]) (fun i y e => valsAt rv (by simpa using e)) fun i h => Iff.rfl
    · rw [List.mem_singleton.mp hb]
      obtain ⟨o, ho, _⟩ := pl
      exact Heap.lt_size ho
  | s z =>
    have h : xs = z.cps.toList.map fun c => V.str ⟨#[c]⟩ := h
    obtain ⟨t, r⟩ : ∃ t, u = .str z t := r
    subst r h
    refine ⟨⟨_, _, trivial, begins_text z t, fun h it e => ⟨t, rfl, _, e, rfl, rfl⟩, fun P w A it hh _ => ?_⟩, fun b hb => by cases hb⟩
    refine drawsImp (Draws.text hh it z t) (by simp) (fun i y e => ?_) fun i h => ⟨fun q => ⟨⟨t, rfl, q⟩, trivial⟩, fun ⟨⟨t', e, q⟩, _⟩ => by cases e; exact q⟩
    obtain ⟨c, t2, e1, rfl⟩ := e
    refine ⟨.str ⟨#[c]⟩, ?_, t2, rfl⟩
    rw [List.getElem?_map]
    have : z.cps.toList[i]? = some c := by simpa using e1
    rw [this]; rfl
theorem Kd.keep {k : Kd} {u : Value} {it : Addr} {i : Nat} {h h' : Heap} (t : k.tn u it i h) (e : ∀ o, h.get? it = some o → h'.get? it = some o) : k.tn u it i h' := by
  cases k with
  | l a => obtain ⟨o, ho, r⟩ := t; exact ⟨o, e o ho, r⟩
  | t a => obtain ⟨o, ho, r⟩ := t; exact ⟨o, e o ho, r⟩
  | s z => obtain ⟨t, e1, o, ho, r⟩ := t; exact ⟨t, e1, o, e o ho, r⟩
theorem Kd.obj {k : Kd} {u : Value} {it : Addr} {i : Nat} {h : Heap} (t : k.tn u it i h) : ∃ o, h.get? it = some o ∧ ∀ v, o.data ≠ .cell v := by
  cases k with
  | l a => obtain ⟨o, ho, _, r⟩ := t; exact ⟨o, ho, fun v z => by rw [r] at z; cases z⟩
  | t a => obtain ⟨o, ho, _, r⟩ := t; exact ⟨o, ho, fun v z => by rw [r] at z; cases z⟩
  | s z => obtain ⟨t, e1, o, ho, _, r⟩ := t; exact ⟨o, ho, fun v z => by rw [r] at z; cases z⟩
end
end EK

set_option Elab.async false
set_option linter.all false
set_option maxRecDepth 100000
set_option maxHeartbeats 4000000
namespace EK
open PySem PySem.W L2 PySem.Spec PyProof.Rows
/-- a walk whose items are new tuples -/
theorem turn_new {P : Program} {w : World} {K : PySem.W.Frag} {tg : Expr} {J : It} {fp wr : List Addr} {it : Addr} {tn : Nat → Heap → Prop} (mem : it ∈ fp) (sub : ∀ b ∈ wr, b ∈ fp)
    (obj : ∀ i h, tn i h → ∀ b ∈ fp, ∃ o, h.get? b = some o ∧ ∀ v, o.data ≠ .cell v) (keep : ∀ i h h', tn i h → (∀ b ∈ fp, ∀ o, h.get? b = some o → h'.get? b = some o) → tn i h')
    (go : ∀ (X : Cx), X.prog = P → X.w = w → X.K = K → X.calm = true → ∀ (i : Nat) (pins : List (Addr × Obj)) (s : Shared) (σ : L2.St) (H : Hp), Inv X pins σ H s → tn i s.heap → J.go i H →
      ∃ (fG : List Addr) (n : Nat) (Y : Nat → Heap → Value → Heap → Prop) (SG : Nat → Heap → Prop), GoesN P w X.A tg it fG wr n Y SG ∧ i < n ∧ SG i s.heap ∧ (∀ h', SG (i + 1) h' → tn (i + 1) h') ∧
        ∀ v h', Y i s.heap v h' → ∃ (xs : List V) (T : Addr) (us : List Value), v = .ref T ∧ s.heap.objs.size ≤ T ∧ h'.IsTuple T us.toArray ∧ Vals xs us ∧ xs.length ≤ sizeLine ∧ (H T = none → J.yld i H (.ref T) (upd H T (.tup xs))))
    (stop : ∀ (X : Cx), X.prog = P → X.w = w → X.K = K → X.calm = true → ∀ (i : Nat) (pins : List (Addr × Obj)) (s : Shared) (σ : L2.St) (H : Hp), Inv X pins σ H s → tn i s.heap → J.stop i H →
      ∃ (fG : List Addr) (Y : Nat → Heap → Value → Heap → Prop) (SG : Nat → Heap → Prop), GoesN P w X.A tg it fG wr i Y SG ∧ SG i s.heap)
    (self : ∀ (A : Around) (i : Nat) (s : Shared) (Q : Value → Shared → Prop) (E : Value → Shared → Prop), tn i s.heap → Q (.ref it) s → wpAny (model P w) A (pyIter (.ref it)) Q E s) : Turn P w K tg J fp it tn where
  mem := mem
  obj := obj
  keep := keep
  item := by
    intro X hP hw hK hc i pins s σ H E I hf st hg
    obtain ⟨fG, n, Y, SG, gN, hi, sg, nx, yd⟩ := go X hP hw hK hc i pins s σ H I st hg
    refine wpAny_mono (gN.goes i s (fun v s2 => ∃ x H', Inv X pins σ H' s2 ∧ RelV x v ∧ J.yld i H x H' ∧ tn (i + 1) s2.heap ∧ ∀ b ∈ fp, H' b = none) E hi sg ?_) (fun r s1 q => q) fun _ _ q => q
    intro v h' tk y sg' kp _
    obtain ⟨xs, T, us, rfl, hT, tup, vl, sz, yl⟩ := yd v h' y
    have hn : H T = none := I.hok.fresh hT
    have new : ObjOk X.prog X.w (upd H T (.tup xs)) h' T (.tup xs) := ⟨sz, us, vl, tup⟩
    refine ⟨.ref T, upd H T (.tup xs), I.turnedNew (ch := wr) kp (fun b hb => hf b (sub b hb)) hT new, rfl, yl hn, nx h' sg', fun b hb => ?_⟩
    obtain ⟨o, ho, _⟩ := obj i s.heap st b hb
    rw [upd_ne (Nat.ne_of_lt (Nat.lt_of_lt_of_le (Heap.lt_size ho) hT))]
    exact (hf b hb).1
  done := by
    intro X hP hw hK hc i pins s σ H E I hf st hg
    obtain ⟨fG, Y, SG, gN, sg⟩ := stop X hP hw hK hc i pins s σ H I st hg
    exact gN.stops s _ E sg fun h' tk kp _ => I.turnedL (ch := wr) kp fun b hb => hf b (sub b hb)
  self := self
/-! ### the three walks -/
def Iten (K : PySem.W.Frag) (k : Kd) : It :=
  ⟨fun i H => ∃ xs, k.at_ K H xs ∧ i < xs.length, fun i H v H' => ∃ T x, v = .ref T ∧ H T = none ∧ H' = upd H T (.tup [.int (i : Nat), x]) ∧ ∀ xs, k.at_ K H xs → xs[i]? = some x, fun i H => ∃ xs, k.at_ K H xs ∧ i = xs.length⟩
def Itz2 (K : PySem.W.Frag) (k1 k2 : Kd) : It :=
  ⟨fun i H => ∃ xs ys, k1.at_ K H xs ∧ k2.at_ K H ys ∧ i < min xs.length ys.length,
   fun i H v H' => ∃ T x y, v = .ref T ∧ H T = none ∧ H' = upd H T (.tup [x, y]) ∧ (∀ xs, k1.at_ K H xs → xs[i]? = some x) ∧ ∀ ys, k2.at_ K H ys → ys[i]? = some y,
   fun i H => ∃ xs ys, k1.at_ K H xs ∧ k2.at_ K H ys ∧ i = min xs.length ys.length⟩
def Itz3 (K : PySem.W.Frag) (k1 k2 k3 : Kd) : It :=
  ⟨fun i H => ∃ xs ys zs, k1.at_ K H xs ∧ k2.at_ K H ys ∧ k3.at_ K H zs ∧ i < min (min xs.length ys.length) zs.length,
   fun i H v H' => ∃ T x y z, v = .ref T ∧ H T = none ∧ H' = upd H T (.tup [x, y, z]) ∧ (∀ xs, k1.at_ K H xs → xs[i]? = some x) ∧ (∀ ys, k2.at_ K H ys → ys[i]? = some y) ∧ ∀ zs, k3.at_ K H zs → zs[i]? = some z,
   fun i H => ∃ xs ys zs, k1.at_ K H xs ∧ k2.at_ K H ys ∧ k3.at_ K H zs ∧ i = min (min xs.length ys.length) zs.length⟩
theorem sqT_inj {X : Cx} {pins : List (Addr × Obj)} {σ : L2.St} {H : Hp} {s : Shared} {a : Addr} {xs ys : List V} (I : Inv X pins σ H s) (h : SqT X.K H a xs) (g : SqT X.K H a ys) : xs = ys := I.tuple_inj h g
theorem Kd.inj {X : Cx} {pins : List (Addr × Obj)} {σ : L2.St} {H : Hp} {s : Shared} {k : Kd} {xs ys : List V} (I : Inv X pins σ H s) (h : k.at_ X.K H xs) (g : k.at_ X.K H ys) : xs = ys := by
  cases k with
  | l a => exact I.list_inj h g
  | t a => exact sqT_inj I h g
  | s z => exact h.trans g.symm
theorem turn_enm {P : Program} {w : World} {K : PySem.W.Frag} {elts : List Expr} {kk : Nat} {tpos : Pos} {k : Kd} {u : Value} {e it : Addr} (ru : RelV k.v u) (hei : e ≠ it) (hef : e ∉ k.fp) (hif : it ∉ k.fp) :
    Turn P w K (.Tuple elts kk tpos) (Iten K k) [e, it] e (fun i h => (∃ old, IsEnum h e it ((0 : Int) + (i : Int)) old) ∧ k.tn u it i h) := by
  refine turn_new (wr := [e, it]) (by simp) (fun b hb => hb) (fun i h st b hb => ?_) (fun i h h' st kp => ?_) (fun X hP hw hK hc i pins s σ H I st hg => ?_) (fun X hP hw hK hc i pins s σ H I st hg => ?_) (fun A i s Q E st h => ?_)
  · obtain ⟨⟨old, he⟩, t⟩ := st
    rcases List.mem_cons.mp hb with rfl | hb
    · exact ⟨_, he, fun v q => by cases q⟩
    · rw [List.mem_singleton.mp hb]; exact Kd.obj t
  · obtain ⟨⟨old, he⟩, t⟩ := st
    exact ⟨⟨old, kp e (by simp) _ he⟩, Kd.keep t fun o => kp it (by simp) o⟩
  · subst hP hw hK
    obtain ⟨he, t⟩ := st
    obtain ⟨xs, q, hi⟩ := hg
    obtain ⟨⟨o, S, sh, _, _, dr⟩, _⟩ := src_of I q ru
    refine ⟨_, _, _, _, GoesN.enumFrom 0 (dr X.prog X.w X.A.in1 it (I.ok.hd hc) hif) e hei (fun z => (List.mem_cons.mp z).elim hei hef) (by simp), hi, ⟨he, t, sh⟩, fun h' q => ⟨q.1, q.2.1⟩, ?_⟩
    rintro v h' ⟨T, tk, x, rfl, hT, ⟨y, hy, ry⟩, tup⟩
    refine ⟨[.int ((0 : Int) + (i : Int)), y], T, [.int ((0 : Int) + (i : Int)) tk, x], rfl, hT, tup, .cons ⟨_, rfl⟩ (.cons ry .nil), by show 2 ≤ sizeLine; decide, fun hn => ⟨T, y, rfl, hn, by rw [Int.zero_add], fun ys hys => ?_⟩⟩
    rw [Kd.inj I hys q]; exact hy
  · subst hP hw hK
    obtain ⟨he, t⟩ := st
    obtain ⟨xs, q, rfl⟩ := hg
    obtain ⟨⟨o, S, sh, _, _, dr⟩, _⟩ := src_of I q ru
    exact ⟨_, _, _, GoesN.enumFrom 0 (dr X.prog X.w X.A.in1 it (I.ok.hd hc) hif) e hei (fun z => (List.mem_cons.mp z).elim hei hef) (by simp), he, t, sh⟩
  · obtain ⟨⟨old, he⟩, _⟩ := st
    exact wpAny_pyIter_enum he h
theorem turn_z2 {P : Program} {w : World} {K : PySem.W.Frag} {elts : List Expr} {kk : Nat} {tpos : Pos} {k1 k2 : Kd} {u1 u2 : Value} {z TI TO i1 i2 : Addr} (r1 : RelV k1.v u1) (r2 : RelV k2.v u2) (S : ZipSep2 z TI TO i1 i2 (i1 :: k1.fp) (i2 :: k2.fp)) (n1 : i1 ∉ k1.fp) (n2 : i2 ∉ k2.fp) :
    Turn P w K (.Tuple elts kk tpos) (Itz2 K k1 k2) [z, TI, TO, i1, i2] z (fun i h => IsZip h z TI TO .none ∧ IsTupOf2 h TI (.ref i1) (.ref i2) ∧ (∃ a1 a2, IsTupOf2 h TO a1 a2) ∧ k1.tn u1 i1 i h ∧ k2.tn u2 i2 i h) := by
  refine turn_new (wr := [z, TO, i1, i2]) (by simp) (fun b hb => ?_) (fun i h st b hb => ?_) (fun i h h' st kp => ?_) (fun X hP hw hK hc i pins s σ H I st hg => ?_) (fun X hP hw hK hc i pins s σ H I st hg => ?_) (fun A i s Q E st h => ?_)
  · simp only [List.mem_cons, List.not_mem_nil, or_false] at hb ⊢
    rcases hb with h | h | h | h <;> simp [h]
  · obtain ⟨hz, hTI, ⟨a1, a2, hTO⟩, t1, t2⟩ := st
    simp only [List.mem_cons, List.not_mem_nil, or_false] at hb
    rcases hb with rfl | rfl | rfl | rfl | rfl
    · exact ⟨_, hz, fun v q => by cases q⟩
    · exact ⟨_, hTI, fun v q => by cases q⟩
    · exact ⟨_, hTO, fun v q => by cases q⟩
    · exact Kd.obj t1
    · exact Kd.obj t2
  · obtain ⟨hz, hTI, ⟨a1, a2, hTO⟩, t1, t2⟩ := st
    exact ⟨kp _ (by simp) _ hz, kp _ (by simp) _ hTI, ⟨a1, a2, kp _ (by simp) _ hTO⟩, Kd.keep t1 fun o => kp _ (by simp) o, Kd.keep t2 fun o => kp _ (by simp) o⟩
  · subst hP hw hK
    obtain ⟨hz, hTI, hTO, t1, t2⟩ := st
    obtain ⟨xs, ys, q1, q2, hi⟩ := hg
    obtain ⟨⟨o1, S1, sh1, _, _, d1⟩, _⟩ := src_of I q1 r1
    obtain ⟨⟨o2, S2, sh2, _, _, d2⟩, _⟩ := src_of I q2 r2
    refine ⟨_, _, _, _, GoesN.zip2 S (d1 X.prog X.w X.A.in1 i1 (I.ok.hd hc) n1) (d2 X.prog X.w X.A.in1 i2 (I.ok.hd hc) n2), hi, ⟨hz, hTI, hTO, ⟨t1, sh1⟩, ⟨t2, sh2⟩⟩, fun h' q => ⟨q.1, q.2.1, q.2.2.1, q.2.2.2.1.1, q.2.2.2.2.1⟩, ?_⟩
    rintro v h' ⟨T, x, y, rfl, hT, ⟨x', hx, rx⟩, ⟨y', hy, ry⟩, tup⟩
    refine ⟨[x', y'], T, [x, y], rfl, hT, tup, .cons rx (.cons ry .nil), by show 2 ≤ sizeLine; decide, fun hn => ⟨T, x', y', rfl, hn, rfl, fun zs hz => ?_, fun zs hz => ?_⟩⟩
    · rw [Kd.inj I hz q1]; exact hx
    · rw [Kd.inj I hz q2]; exact hy
  · subst hP hw hK
    obtain ⟨hz, hTI, hTO, t1, t2⟩ := st
    obtain ⟨xs, ys, q1, q2, rfl⟩ := hg
    obtain ⟨⟨o1, S1, sh1, _, _, d1⟩, _⟩ := src_of I q1 r1
    obtain ⟨⟨o2, S2, sh2, _, _, d2⟩, _⟩ := src_of I q2 r2
    exact ⟨_, _, _, GoesN.zip2 S (d1 X.prog X.w X.A.in1 i1 (I.ok.hd hc) n1) (d2 X.prog X.w X.A.in1 i2 (I.ok.hd hc) n2), hz, hTI, hTO, ⟨t1, sh1⟩, ⟨t2, sh2⟩⟩
  · exact wpAny_pyIter_zip st.1 h
theorem turn_z3 {P : Program} {w : World} {K : PySem.W.Frag} {elts : List Expr} {kk : Nat} {tpos : Pos} {k1 k2 k3 : Kd} {u1 u2 u3 : Value} {z TI TO i1 i2 i3 : Addr} (r1 : RelV k1.v u1) (r2 : RelV k2.v u2) (r3 : RelV k3.v u3) (S : ZipSep3 z TI TO i1 i2 i3 (i1 :: k1.fp) (i2 :: k2.fp) (i3 :: k3.fp)) (n1 : i1 ∉ k1.fp) (n2 : i2 ∉ k2.fp) (n3 : i3 ∉ k3.fp) :
    Turn P w K (.Tuple elts kk tpos) (Itz3 K k1 k2 k3) [z, TI, TO, i1, i2, i3] z (fun i h => IsZip h z TI TO .none ∧ IsTupOf3 h TI (.ref i1) (.ref i2) (.ref i3) ∧ (∃ a1 a2 a3, IsTupOf3 h TO a1 a2 a3) ∧ k1.tn u1 i1 i h ∧ k2.tn u2 i2 i h ∧ k3.tn u3 i3 i h) := by
  refine turn_new (wr := [z, TO, i1, i2, i3]) (by simp) (fun b hb => ?_) (fun i h st b hb => ?_) (fun i h h' st kp => ?_) (fun X hP hw hK hc i pins s σ H I st hg => ?_) (fun X hP hw hK hc i pins s σ H I st hg => ?_) (fun A i s Q E st h => ?_)
  · simp only [List.mem_cons, List.not_mem_nil, or_false] at hb ⊢
    rcases hb with h | h | h | h | h <;> simp [h]
  · obtain ⟨hz, hTI, ⟨a1, a2, a3, hTO⟩, t1, t2, t3⟩ := st
    simp only [List.mem_cons, List.not_mem_nil, or_false] at hb
    rcases hb with rfl | rfl | rfl | rfl | rfl | rfl
    · exact ⟨_, hz, fun v q => by cases q⟩
    · exact ⟨_, hTI, fun v q => by cases q⟩
    · exact ⟨_, hTO, fun v q => by cases q⟩
    · exact Kd.obj t1
    · exact Kd.obj t2
    · exact Kd.obj t3
  · obtain ⟨hz, hTI, ⟨a1, a2, a3, hTO⟩, t1, t2, t3⟩ := st
    exact ⟨kp _ (by simp) _ hz, kp _ (by simp) _ hTI, ⟨a1, a2, a3, kp _ (by simp) _ hTO⟩, Kd.keep t1 fun o => kp _ (by simp) o, Kd.keep t2 fun o => kp _ (by simp) o, Kd.keep t3 fun o => kp _ (by simp) o⟩
  · subst hP hw hK
    obtain ⟨hz, hTI, hTO, t1, t2, t3⟩ := st
    obtain ⟨xs, ys, zs, q1, q2, q3, hi⟩ := hg
    obtain ⟨⟨o1, S1, sh1, _, _, d1⟩, _⟩ := src_of I q1 r1
    obtain ⟨⟨o2, S2, sh2, _, _, d2⟩, _⟩ := src_of I q2 r2
    obtain ⟨⟨o3, S3, sh3, _, _, d3⟩, _⟩ := src_of I q3 r3
    refine ⟨_, _, _, _, GoesN.zip3 S (d1 X.prog X.w X.A.in1 i1 (I.ok.hd hc) n1) (d2 X.prog X.w X.A.in1 i2 (I.ok.hd hc) n2) (d3 X.prog X.w X.A.in1 i3 (I.ok.hd hc) n3), hi, ⟨hz, hTI, hTO, ⟨t1, sh1⟩, ⟨t2, sh2⟩, ⟨t3, sh3⟩⟩, fun h' q => ⟨q.1, q.2.1, q.2.2.1, q.2.2.2.1.1, q.2.2.2.2.1.1, q.2.2.2.2.2.1⟩, ?_⟩
    rintro v h' ⟨T, x, y, u, rfl, hT, ⟨x', hx, rx⟩, ⟨y', hy, ry⟩, ⟨u', hu, rv⟩, tup⟩
    refine ⟨[x', y', u'], T, [x, y, u], rfl, hT, tup, .cons rx (.cons ry (.cons rv .nil)), by show 3 ≤ sizeLine; decide, fun hn => ⟨T, x', y', u', rfl, hn, rfl, fun zs hz => ?_, fun zs hz => ?_, fun zs hz => ?_⟩⟩
    · rw [Kd.inj I hz q1]; exact hx
    · rw [Kd.inj I hz q2]; exact hy
    · rw [Kd.inj I hz q3]; exact hu
  · subst hP hw hK
    obtain ⟨hz, hTI, hTO, t1, t2, t3⟩ := st
    obtain ⟨xs, ys, zs, q1, q2, q3, rfl⟩ := hg
    obtain ⟨⟨o1, S1, sh1, _, _, d1⟩, _⟩ := src_of I q1 r1
    obtain ⟨⟨o2, S2, sh2, _, _, d2⟩, _⟩ := src_of I q2 r2
    obtain ⟨⟨o3, S3, sh3, _, _, d3⟩, _⟩ := src_of I q3 r3
    exact ⟨_, _, _, GoesN.zip3 S (d1 X.prog X.w X.A.in1 i1 (I.ok.hd hc) n1) (d2 X.prog X.w X.A.in1 i2 (I.ok.hd hc) n2) (d3 X.prog X.w X.A.in1 i3 (I.ok.hd hc) n3), hz, hTI, hTO, ⟨t1, sh1⟩, ⟨t2, sh2⟩, ⟨t3, sh3⟩⟩
  · exact wpAny_pyIter_zip st.1 h
end EK

set_option Elab.async false
set_option linter.all false
set_option maxRecDepth 100000
set_option maxHeartbeats 4000000
namespace EK
open PySem PySem.W L2 PySem.Spec PyProof.Rows
abbrev enO (N : Nat) : Obj := { cls := .type "enumerate", data := .fields #[.none, .bool false, .ref N, rawInt 0, .none, .none] }
/-- enumerate(v) -/
theorem meets_enm {v : Value} {o : Obj} {S : Heap → Prop} (B : Begins v o S) :
    Meets (Builtin.«enumerate.__new__» ⟨[.type "enumerate", v], []⟩) (fun _ R s => S s.heap ∧ R (.ok (.ret (.ref (s.heap.push o).objs.size))) { s with heap := (s.heap.push o).push (enO s.heap.objs.size) }) := by
  refine .of_wp ?_
  intro prog w A R s h
  obtain ⟨hp, g, d, tk, os⟩ := s
  obtain ⟨h1, h⟩ := h
  have hsub := sub_enumerate
  have q1 : ∀ {A' : Around} {E : Value → Shared → Prop} {Q : Value → Shared → Prop}, Q (.ref hp.objs.size) ⟨hp.push o, g, d, tk, os⟩ → wpAny (model prog w) A' (pyIter v) Q E ⟨hp, g, d, tk, os⟩ := by
    intro A' E Q q
    exact B.iter prog w _ _ ⟨hp, g, d, tk, os⟩ _ h1 q
  wp_walk using q1
  refine wpAny_stack_any fun st => wpAny_pure ?_
  split
  · rename_i c _ _ _ _ _
    cases (c == Value.type "enumerate")
    all_goals (wp_walk using q1; exact ⟨_, rfl, h⟩)
  · wp_walk using q1
    exact ⟨_, rfl, h⟩
section
variable {prog : Program} {w : World} {A : Around} {E : Value → Shared → Prop} {s : Shared}
theorem enm_begins {v : Value} {o : Obj} {S : Heap → Prop} {Q : Value → Shared → Prop} (B : Begins v o S) (h1 : S s.heap)
    (h : ∀ h', IsEnum h' (s.heap.objs.size + 1) s.heap.objs.size 0 .none → h'.get? s.heap.objs.size = some o → (∀ b o, s.heap.get? b = some o → h'.get? b = some o) → Q (.ref (s.heap.objs.size + 1)) { s with heap := h' }) :
    wpAny (model prog w) A (call (.type "enumerate") [v]) Q E s := by
  refine callType_new F.called_enumerate (by decide) (F.typeCall_enumerate_1 _) (F.newCall_enumerate_1 _) (fun obj => F.args_object_init_2 obj _) F.entry_enumerate_new (meets_enm B) ⟨h1, ?_⟩
  have hz : (s.heap.push o).objs.size = s.heap.objs.size + 1 := Heap.size_push ..
  have he := Heap.get?_push_size (s.heap.push o) (o := enO s.heap.objs.size) rfl
  rw [hz] at he
  show _ ∧ _
  rw [hz]
  exact ⟨⟨_, he, rfl⟩, h _ he (Heap.get?_push_of_some _ (Heap.get?_push_size _ B.free)) fun b o x => Heap.get?_push_of_some _ (Heap.get?_push_of_some _ x)⟩
end
section
variable {X : Cx} {e e2 e3 : Expr} {ta : TA} {p pos tpos : Pos} {elts : List Expr} {kk : Nat}
def iEn (K : PySem.W.Frag) (ta : TA) : TI := fun σ H R => ta σ H fun vs H1 => ∃ k xs, vs = [Kd.v k] ∧ k.at_ K H1 xs ∧ R (Iten K k) H1
def iZ2 (K : PySem.W.Frag) (ta : TA) : TI := fun σ H R => ta σ H fun vs H1 => ∃ k1 k2 xs ys, vs = [Kd.v k1, Kd.v k2] ∧ k1.at_ K H1 xs ∧ k2.at_ K H1 ys ∧ R (Itz2 K k1 k2) H1
def iZ3 (K : PySem.W.Frag) (ta : TA) : TI := fun σ H R => ta σ H fun vs H1 => ∃ k1 k2 k3 xs ys zs, vs = [Kd.v k1, Kd.v k2, Kd.v k3] ∧ k1.at_ K H1 xs ∧ k2.at_ K H1 ys ∧ k3.at_ K H1 zs ∧ R (Itz3 K k1 k2 k3) H1
theorem far {N : Nat} {fp : List Addr} (h : ∀ b ∈ fp, b < N) {c : Nat} (hc : N ≤ c) : c ∉ fp := fun z => absurd (h c z) (Nat.not_lt.mpr hc)
theorem pi_en (hg : Gl X "enumerate") (hm : X.mg "enumerate" = none) (ha : PA X [e] ta) (hs : starEach [e] X.env = [(false, eval e X.env)]) : PI X (.Tuple elts kk tpos) (.Call (.Name "enumerate" p) [e] [] pos) (iEn X.K ta) := by
  constructor
  intro pins s σ H R I h
  refine Call_ (ld_blt I hg hm boot_enumerate (PyProof.Rows.callWith_type1 (thn (ha.run pos pins s σ H _ I h) ?_) hs rfl))
  rintro us s1 ⟨vs, H1, I1, r1, k, xs, rfl, q1, q⟩
  obtain ⟨u, rfl, ru⟩ := vals1 r1
  obtain ⟨⟨o, S, sh, B, st0, dr⟩, low⟩ := src_of I1 q1 ru
  refine enm_begins B sh fun h' he ho kp => wpAny_pyIter_enum he ?_
  have I2 : Inv X pins σ H1 { s1 with heap := h' } := I1.kept (t' := s1.toks) kp
  refine ⟨s1.heap.objs.size + 1, [s1.heap.objs.size + 1, s1.heap.objs.size], _, _, H1, rfl, I2, turn_enm ru (Nat.succ_ne_self _) (far low (by omega)) (far low (Nat.le_refl _)), ⟨⟨.none, he⟩, st0 h' _ ho⟩, fun b hb => ?_, q⟩
  have hle : s1.heap.objs.size ≤ b := by
    simp only [List.mem_cons, List.not_mem_nil, or_false] at hb
    rcases hb with z | z <;> (rw [z]; first | exact Nat.le_refl _ | exact Nat.le_add_right _ _)
  exact I1.fpOk hle (I1.hok.fresh hle)
theorem vals3 {a b c : V} {us : List Value} (h : Vals [a, b, c] us) : ∃ u1 u2 u3, us = [u1, u2, u3] ∧ RelV a u1 ∧ RelV b u2 ∧ RelV c u3 := by
  cases h with
  | cons h1 h =>
    cases h with
    | cons h2 h =>
      cases h with
      | cons h3 h => cases h; exact ⟨_, _, _, rfl, h1, h2, h3⟩
theorem valsTwo {a b : V} {us : List Value} (h : Vals [a, b] us) : ∃ u1 u2, us = [u1, u2] ∧ RelV a u1 ∧ RelV b u2 := by
  cases h with
  | cons h1 h =>
    cases h with
    | cons h2 h => cases h; exact ⟨_, _, rfl, h1, h2⟩
theorem pi_z2 (hg : Gl X "zip") (hm : X.mg "zip" = none) (ha : PA X [e, e2] ta) (hs : starEach [e, e2] X.env = (false, eval e X.env) :: starEach [e2] X.env) (hpl : (backTo pos (starEach [e2] X.env)).any (·.1) = false) :
    PI X (.Tuple elts kk tpos) (.Call (.Name "zip" p) [e, e2] [] pos) (iZ2 X.K ta) := by
  constructor
  intro pins s σ H R I h
  refine Call_ (ld_blt I hg hm PyProof.Rows.boot_zip (PyProof.Rows.callWith_type1 (thn (ha.run pos pins s σ H _ I h) ?_) hs hpl))
  rintro us s1 ⟨vs, H1, I1, r, k1, k2, xs, ys, rfl, q1, q2, q⟩
  obtain ⟨u1, u2, rfl, r1, r2⟩ := valsTwo r
  obtain ⟨⟨o1, S1, sh1, B1, st1, _⟩, low1⟩ := src_of I1 q1 r1
  obtain ⟨⟨o2, S2, sh2, B2, st2, _⟩, low2⟩ := src_of I1 q2 r2
  refine zip_begins2 B1 B2 sh1 sh2 fun h' hz hTI hTO h1 h2 _ kp => wpAny_pyIter_zip hz ?_
  have I2 : Inv X pins σ H1 { s1 with heap := h' } := I1.kept (t' := s1.toks) kp
  refine ⟨s1.heap.objs.size + 4, [s1.heap.objs.size + 4, s1.heap.objs.size + 2, s1.heap.objs.size + 3, s1.heap.objs.size, s1.heap.objs.size + 1], _, _, H1, rfl, I2, turn_z2 r1 r2 (zip_sep2 low1 low2) (far low1 (Nat.le_refl _)) (far low2 (by omega)), ⟨hz, hTI, ⟨_, _, hTO⟩, st1 h' _ h1, st2 h' _ h2⟩, fun b hb => ?_, q⟩
  have hle : s1.heap.objs.size ≤ b := by
    simp only [List.mem_cons, List.not_mem_nil, or_false] at hb
    rcases hb with z | z | z | z | z <;> (rw [z]; first | exact Nat.le_refl _ | exact Nat.le_add_right _ _)
  exact I1.fpOk hle (I1.hok.fresh hle)
theorem pi_z3 (hg : Gl X "zip") (hm : X.mg "zip" = none) (ha : PA X [e, e2, e3] ta) (hs : starEach [e, e2, e3] X.env = (false, eval e X.env) :: starEach [e2, e3] X.env) (hpl : (backTo pos (starEach [e2, e3] X.env)).any (·.1) = false) :
    PI X (.Tuple elts kk tpos) (.Call (.Name "zip" p) [e, e2, e3] [] pos) (iZ3 X.K ta) := by
  constructor
  intro pins s σ H R I h
  refine Call_ (ld_blt I hg hm PyProof.Rows.boot_zip (PyProof.Rows.callWith_type1 (thn (ha.run pos pins s σ H _ I h) ?_) hs hpl))
  rintro us s1 ⟨vs, H1, I1, r, k1, k2, k3, xs, ys, zs, rfl, q1, q2, q3, q⟩
  obtain ⟨u1, u2, u3, rfl, r1, r2, r3⟩ := vals3 r
  obtain ⟨⟨o1, S1, sh1, B1, st1, _⟩, low1⟩ := src_of I1 q1 r1
  obtain ⟨⟨o2, S2, sh2, B2, st2, _⟩, low2⟩ := src_of I1 q2 r2
  obtain ⟨⟨o3, S3, sh3, B3, st3, _⟩, low3⟩ := src_of I1 q3 r3
  refine zip_begins3 B1 B2 B3 sh1 sh2 sh3 fun h' hz hTI hTO h1 h2 h3 _ kp => wpAny_pyIter_zip hz ?_
  have I2 : Inv X pins σ H1 { s1 with heap := h' } := I1.kept (t' := s1.toks) kp
  refine ⟨s1.heap.objs.size + 5, [s1.heap.objs.size + 5, s1.heap.objs.size + 3, s1.heap.objs.size + 4, s1.heap.objs.size, s1.heap.objs.size + 1, s1.heap.objs.size + 2], _, _, H1, rfl, I2, turn_z3 r1 r2 r3 (zip_sep3 low1 low2 low3) (far low1 (Nat.le_refl _)) (far low2 (by omega)) (far low3 (by omega)), ⟨hz, hTI, ⟨_, _, _, hTO⟩, st1 h' _ h1, st2 h' _ h2, st3 h' _ h3⟩, fun b hb => ?_, q⟩
  have hle : s1.heap.objs.size ≤ b := by
    simp only [List.mem_cons, List.not_mem_nil, or_false] at hb
    rcases hb with z | z | z | z | z | z <;> (rw [z]; first | exact Nat.le_refl _ | exact Nat.le_add_right _ _)
  exact I1.fpOk hle (I1.hok.fresh hle)
end
end EK

set_option Elab.async false
set_option linter.all false
set_option maxRecDepth 100000
set_option maxHeartbeats 4000000
namespace EK
open PySem PySem.W L2 PySem.Spec PyProof.Rows
section
variable {prog : Program} {w : World} {A : Around} {E : Value → Shared → Prop} {s : Shared}
theorem adj_rev (n : Nat) : Builtin.Slice.sliceAdjust none none (-1) (n : Int) = ((n : Int) - 1, -1) := rfl
theorem plc_rev (n : Nat) : Builtin.Slice.slicePlaces ((n : Int) - 1) (-1) (-1) = n := by
  unfold Builtin.Slice.slicePlaces
  rw [if_neg (by decide)]
  by_cases h : n = 0
  · subst h; rfl
  · rw [if_pos (by omega)]
    have : ((n : Int) - 1 - -1 - 1) / (- -1) + 1 = (n : Int) := by
      have e : (- -1 : Int) = 1 := rfl
      rw [e, Int.ediv_one]; omega
    rw [this]; rfl
theorem applied_rev {sl : Addr} {n : Nat} {u : Tok} {Q : Int × Int × Nat → Shared → Prop} (hs : s.heap.IsSliceOf sl .none .none (.int (-1) u)) (h : Q ((n : Int) - 1, -1, n) s) : wpAny (model prog w) A (Builtin.Slice.sliceApplied (.ref sl) (pure (n : Int))) Q E s := by
  obtain ⟨os, hos, hcs, hds⟩ := hs
  unfold Builtin.Slice.sliceApplied Builtin.Slice.sliceFields
  apply wpAny_bind
  refine wpAny_bind (wpAny_field hos hds (x := .none) rfl (wpAny_bind (wpAny_field hos hds (x := .none) rfl (wpAny_bind (wpAny_field hos hds (x := .int (-1) u) rfl (wpAny_pure ?_))))))
  refine wpAny_bind (slicePart_int ?_)
  show wpAny _ _ (if ((-1 : Int) == 0) = true then _ else _) _ _ s
  rw [if_neg (by decide)]
  refine wpAny_bind (slicePart_none (wpAny_bind (slicePart_none (wpAny_bind (wpAny_pure ?_)))))
  show wpAny _ _ (match Builtin.Slice.sliceAdjust none none (-1) (n : Int) with | (lo, hi) => pure (lo, (-1 : Int), Builtin.Slice.slicePlaces lo hi (-1))) _ _ s
  rw [adj_rev]
  show wpAny _ _ (pure ((n : Int) - 1, (-1 : Int), Builtin.Slice.slicePlaces ((n : Int) - 1) (-1) (-1))) _ _ s
  rw [plc_rev]
  exact wpAny_pure h
theorem pick_rev (items : Array Value) : ((List.range items.size).filterMap fun (k : Nat) => items[(((items.size : Int) - 1) + (k : Int) * (-1)).toNat]?) = items.toList.reverse := by
  have e : (fun (k : Nat) => items[(((items.size : Int) - 1) + (k : Int) * (-1)).toNat]?) = (fun j => items[j]?) ∘ fun k => items.size - 1 - k := by
    funext k
    show items[(((items.size : Int) - 1) + (k : Int) * (-1)).toNat]? = items[items.size - 1 - k]?
    congr 1
    omega
  rw [e, ← List.filterMap_map, krv_range, List.filterMap_reverse, krv_all]
theorem item_rev {t sl : Addr} {items : Array Value} {u : Tok} {Q : Value → Shared → Prop} (ht : IsTup s.heap t items) (hs : s.heap.IsSliceOf sl .none .none (.int (-1) u)) (hz : items.size ≤ sizeLine)
    (h : Q (.ref s.heap.objs.size) { s with heap := s.heap.push { cls := .type "tuple", data := .seq items.toList.reverse.toArray } }) : wpAny (model prog w) A (getItem (.ref t) (.ref sl)) Q E s := by
  have ok : sizeOk (.seq items.toList.reverse.toArray) := by
    show items.toList.reverse.toArray.size ≤ sizeLine
    simpa using hz
  have hTs : s.TypeIs (.ref sl) "slice" := by
    obtain ⟨os, hos, hcs, _⟩ := hs
    exact ⟨os, hos, hcs⟩
  unfold getItem
  try with_reducible refine wpAny_holding ?_
  first | refine wpAny_bind (wpAny_pure ?_) | skip
  refine wpAny_bind (wpAny_sequenceKey ht.typeIs (by decide) ?_)
  apply wpAny_bind
  refine wpAny_callSpecial?_slot (name := Str.ofString "__getitem__") ht.typeIs PyProof.Rows.slot_tuple_getitem ?_
  refine wpAny_call_entry PyProof.Rows.slot_tuple_getitem ht.typeIs entry_tuple_getitem ?_ (args_tuple_getitem _ _)
  show wpAny _ _ (Builtin.Tuple.tupleItemsOf (.ref t) >>= _) _ _ s
  refine wpAny_bind (tupleItemsOf_ ht (wpAny_bind (wpAny_typeOf hTs ?_)))
  rw [if_pos (by decide)]
  refine wpAny_bind (applied_rev hs ?_)
  show wpAny _ _ (if ((items.size : Int) - 1 == 0 && (-1 : Int) == 1 && items.size == items.size) = true then _ else _) _ _ s
  rw [if_neg (by rw [show ((-1 : Int) == 1) = false from rfl, Bool.and_false, Bool.false_and]; exact Bool.false_ne_true), pick_rev]
  first
    | exact wpAny_bind (m := Builtin.Tuple.tupleExact _) (wpAny_newObj_type (wpAny_pure ⟨_, rfl, wpAny_pure h⟩) ok)
    | exact wpAny_bind (m := Builtin.Tuple.tupleExact _) (wpAny_newObj_type (wpAny_bind (wpAny_pure (wpAny_pure ⟨_, rfl, wpAny_pure h⟩))) ok)
    | exact wpAny_bind (wpAny_bind (m := Builtin.Tuple.tupleExact _) (wpAny_newObj_type (wpAny_pure (wpAny_pure ⟨_, rfl, wpAny_pure h⟩)) ok))
    | exact wpAny_bind (wpAny_bind (m := Builtin.Tuple.tupleExact _) (wpAny_newObj_type (wpAny_pure ⟨_, rfl, wpAny_pure h⟩) ok))
end
end EK

set_option Elab.async false
set_option linter.all false
set_option maxRecDepth 100000
set_option maxHeartbeats 4000000
namespace EK
open PySem L2 PySem.Spec

/-! ### the small language -/
inductive Bf where
  | len | abs | int | max | min | sum | all | any | list | tuple | repr
  deriving DecidableEq
inductive Mf where
  | join | index | count
  deriving DecidableEq
inductive Ik where
  | seq | rng | zip | enm
  deriving DecidableEq
inductive Tg where
  | one (i : Nat) | many (is : List Nat)
  deriving DecidableEq
inductive CE where
  | var (i : Nat) | con (d : D) | glob (x : Str)
  | bin (op : Operator) (a b : CE) | neg (a : CE) | not (a : CE)
  | cmp (op : CmpOp) (a b : CE) | chain (o1 o2 : CmpOp) (a b c : CE)
  | and (a b : CE) | or (a b : CE) | ite (c a b : CE)
  | call (f : Str) (args : List CE)
  | blt (f : Bf) (args : List CE)
  | isi (a : CE) (T : String)
  | mth (m : Mf) (o a : CE)
  | dget (o k d : CE)
  | idx (a b : CE) | sl (a lo hi : CE) | rev (a : CE)
  | tup (es : List CE) | lst (es : List CE) | dic (ks : List Key) (vs : List CE)
  | lc (elt : CE) (tg : Tg) (ik : Ik) (ia : List CE) (cond : CE) (own : List (Str × Nat))
  | fnv (x : Str) | callv (i : Nat) (args : List CE) | tupS (a b : CE)
  | callk (f : Str) (args : List CE)
/-- calls whose arguments are told by names, in the parameters' order -/
def kwT : List (Str × List Str) := [("rest_of", ["replacement", "other"]), ("told_by", ["row"])]
/-- what an expression comes to -/
inductive R where
  | ok (d : D) (S : Sto) | ex (c : Str) (d : D) (S : Sto) | bad
inductive RA where
  | ok (ds : List D) (S : Sto) | ex (c : Str) (d : D) (S : Sto) | bad
def R.bind : R → (D → Sto → R) → R
  | .ok d S, k => k d S
  | .ex c d S, _ => .ex c d S
  | .bad, _ => .bad
def RA.bind : RA → (List D → Sto → R) → R
  | .ok d S, k => k d S
  | .ex c d S, _ => .ex c d S
  | .bad, _ => .bad
def R.lift (o : Option D) (S : Sto) : R := match o with
  | some d => .ok d S
  | none => .bad
abbrev Fsem := List D → Sto → R
@[simp] def bfSem : Bf → List D → Option D
  | .len => lenD
  | .abs => absD
  | .int => intD
  | .max => maxD
  | .min => minD
  | .sum => sumD
  | .all => allD
  | .any => anyD
  | .list => listD
  | .tuple => tupleD
  | .repr => reprD
def bfName : Bf → Str
  | .len => "len"
  | .abs => "abs"
  | .int => "int"
  | .max => "max"
  | .min => "min"
  | .sum => "sum"
  | .all => "all"
  | .any => "any"
  | .list => "list"
  | .tuple => "tuple"
  | .repr => "repr"
def negD : D → Option D
  | .int i => some (.int (-i))
  | _ => none
def typD : D → Option String
  | .non => some "NoneType"
  | .bl _ => some "bool"
  | .int _ => some "int"
  | .str _ => some "str"
  | .tup _ => some "tuple"
  | .lst _ => some "list"
  | .frz _ => none
  | .dic _ => some "dict"
  | _ => none
def isiD (T : String) (d : D) : Option D := ((typD d).bind fun t => kitB t T).map .bl
def joinD : D → D → Option D
  | .str s, .lst xs => match strsOf xs with
    | some ys => if (ys.map (·.length)).sum + ys.length * s.length ≤ szL then some (.str (TL.joinL s ys)) else none
    | none => none
  | _, _ => none
def indexD : D → D → Option D
  | .lst xs, y => if flatD y = true ∧ xs.all flatD = true then (xs.findIdx? fun x => eqFl x y).map fun j => .int (j : Nat) else none
  | _, _ => none
def countD : D → D → Option D
  | .str s, .str [c] => some (.int (s.count c : Nat))
  | _, _ => none
def mfSem : Mf → D → D → Option D
  | .join => joinD
  | .index => indexD
  | .count => countD
def recvB : Mf → D → Bool
  | .join, .str _ => true
  | .index, .lst _ => true
  | .count, .str _ => true
  | _, _ => false
def isDic : D → Bool
  | .dic _ => true
  | _ => false
def dgetD : D → D → D → Option D
  | .dic es, k, d => (keyD k).map fun q => (getK es q).getD d
  | _, _, _ => none
def nonC : CE → Bool
  | .con .non => true
  | _ => false
def partI (c : CE) (d : D) : Option (Option Int) := if nonC c = true then some none else match d with
  | .int i => some (some i)
  | _ => none
def noLoc : D → Bool
  | .loc _ => false
  | _ => true
def pairs : List D → List D → List D
  | x :: xs, y :: ys => .tup [x, y] :: pairs xs ys
  | _, _ => []
def enumFrom : Nat → List D → List D
  | _, [] => []
  | n, x :: xs => .tup [.int (n : Int), x] :: enumFrom (n + 1) xs
def rngL (lo : Int) (n : Nat) : List D := (List.range n).map fun (i : Nat) => .int (lo + (i : Int))
def rngS (lo c : Int) (n : Nat) : List D := (List.range n).map fun (i : Nat) => .int (lo + (i : Int) * c)
def trips : List D → List D → List D → List D
  | x :: xs, y :: ys, z :: zs => .tup [x, y, z] :: trips xs ys zs
  | _, _, _ => []
/-- the items of a list, a tuple, a text -/
def seqD : D → Option (List D)
  | .lst xs => some xs
  | .frz xs => some xs
  | .tup xs => some xs
  | .str s => some (s.map fun c => .str [c])
  | _ => none
/-- the items that are walked -/
def itD : Ik → List D → Option (List D)
  | .seq, [.lst xs] => some xs
  | .seq, [.frz xs] => some xs
  | .seq, [.tup xs] => some xs
  | .seq, [.str s] => some (s.map fun c => .str [c])
  | .rng, [.int n] => if in62 n = true then some (rngL 0 n.toNat) else none
  | .rng, [.int a, .int b] => if in62 a = true ∧ in62 b = true then some (rngL a (b - a).toNat) else none
  | .rng, [.int a, .int b, .int c] => if c = -1 ∧ in62 a = true ∧ in62 b = true then some (rngS a (-1) (a - b).toNat) else none
  | .zip, [a, b] => match seqD a, seqD b with
    | some xs, some ys => some (pairs xs ys)
    | _, _ => none
  | .zip, [a, b, c] => match seqD a, seqD b, seqD c with
    | some xs, some ys, some zs => some (trips xs ys zs)
    | _, _, _ => none
  | .enm, [a] => match seqD a with
    | some xs => some (enumFrom 0 xs)
    | none => none
  | _, _ => none
@[simp] def setMany : List Nat → List D → Gam → Option Gam
  | [], [], Γ => some Γ
  | i :: is, d :: ds, Γ => setMany is ds (Γ.set i (some d))
  | _, _, _ => none
@[simp] def setTg : Tg → D → Gam → Option Gam
  | .one i, d, Γ => some (Γ.set i (some d))
  | .many is, .tup ds, Γ => setMany is ds Γ
  | _, _, _ => none
@[simp] def wipeG (Γ : Gam) : List Nat → Gam
  | [] => Γ
  | v :: vs => (wipeG Γ vs).set v none
/-- a comprehension's turns -/
def lcLoop (cond elt : Gam → Sto → R) (tg : Tg) (Γ : Gam) : List D → List D → Sto → R
  | [], acc, S => .ok (.lst acc) S
  | x :: xs, acc, S => match setTg tg x Γ with
    | none => .bad
    | some Γ' => match cond Γ' S with
      | .ok (.bl true) S1 => match elt Γ' S1 with
        | .ok d S2 => if noLoc d = true then lcLoop cond elt tg Γ xs (acc ++ [d]) S2 else .bad
        | _ => .bad
      | .ok (.bl false) S1 => lcLoop cond elt tg Γ xs acc S1
      | _ => .bad
section
variable (Φ : Str → Option Fsem) (G : Str → Option D)
mutual
@[simp] def ev : CE → Gam → Sto → R
  | .var i, Γ, S => match Γ[i]? with
    | some (some d) => .ok d S
    | _ => .bad
  | .con d, _, S => .ok d S
  | .glob x, _, S => .lift (G x) S
  | .bin op a b, Γ, S => (ev a Γ S).bind fun d S1 => (ev b Γ S1).bind fun e S2 => .lift (binD op (vw S2 d) (vw S2 e)) S2
  | .neg a, Γ, S => (ev a Γ S).bind fun d S1 => .lift (negD d) S1
  | .not a, Γ, S => (ev a Γ S).bind fun d S1 => match d with
    | .bl b => .ok (.bl (!b)) S1
    | _ => .bad
  | .cmp op a b, Γ, S => (ev a Γ S).bind fun d S1 => (ev b Γ S1).bind fun e S2 => .lift (cmpD op (vw S2 d) (vw S2 e)) S2
  | .chain o1 o2 a b c, Γ, S => (ev a Γ S).bind fun d S1 => (ev b Γ S1).bind fun e S2 => match cmpD o1 (vw S2 d) (vw S2 e) with
    | some (.bl true) => (ev c Γ S2).bind fun f S3 => .lift (cmpD o2 (vw S3 e) (vw S3 f)) S3
    | some (.bl false) => .ok (.bl false) S2
    | _ => .bad
  | .and a b, Γ, S => (ev a Γ S).bind fun d S1 => match d with
    | .bl true => ev b Γ S1
    | .bl false => .ok (.bl false) S1
    | _ => .bad
  | .or a b, Γ, S => (ev a Γ S).bind fun d S1 => match d with
    | .bl true => .ok (.bl true) S1
    | .bl false => ev b Γ S1
    | _ => .bad
  | .ite c a b, Γ, S => (ev c Γ S).bind fun d S1 => match d with
    | .bl true => ev a Γ S1
    | .bl false => ev b Γ S1
    | _ => .bad
  | .call f args, Γ, S => match Φ f with
    | some F => (evs args Γ S).bind F
    | none => .bad
  | .blt f args, Γ, S => (evs args Γ S).bind fun ds S1 => .lift (bfSem f (ds.map (vw S1))) S1
  | .isi a T, Γ, S => (ev a Γ S).bind fun d S1 => .lift (isiD T d) S1
  | .mth m o a, Γ, S => (ev o Γ S).bind fun d S1 => if recvB m (vw S1 d) = true then (ev a Γ S1).bind fun e S2 => .lift (mfSem m (vw S2 d) (vw S2 e)) S2 else .bad
  | .dget o k x, Γ, S => (ev o Γ S).bind fun d S1 => if isDic (vw S1 d) = true then (ev k Γ S1).bind fun e S2 => (ev x Γ S2).bind fun f S3 => if noLoc f = true then .lift (dgetD (vw S3 d) (vw S3 e) f) S3 else .bad else .bad
  | .idx a b, Γ, S => (ev a Γ S).bind fun d S1 => (ev b Γ S1).bind fun e S2 => .lift (idxD (vw S2 d) (vw S2 e)) S2
  | .sl a lo hi, Γ, S => (ev a Γ S).bind fun d S1 => (ev lo Γ S1).bind fun l S2 => match partI lo l with
    | none => .bad
    | some l' => (ev hi Γ S2).bind fun h S3 => match partI hi h with
      | none => .bad
      | some h' => .lift (slD (vw S3 d) l' h') S3
  | .rev a, Γ, S => (ev a Γ S).bind fun d S1 => .lift (revD (vw S1 d)) S1
  | .tup es, Γ, S => (evs es Γ S).bind fun ds S1 => if ds.all noLoc = true ∧ ds.length ≤ szL then .ok (.tup ds) S1 else .bad
  | .lst es, Γ, S => (evs es Γ S).bind fun ds S1 => if ds.all noLoc = true ∧ ds.length ≤ szL then .ok (.lst ds) S1 else .bad
  | .dic ks vs, Γ, S => (evs vs Γ S).bind fun ds S1 => if ds.all noLoc = true ∧ ds.length = ks.length ∧ ks.length ≤ 15 ∧ ks.Nodup then .ok (.dic (ks.zip ds)) S1 else .bad
  | .fnv x, _, S => match Φ x with
    | some _ => .ok (.fn x) S
    | none => .bad
  | .callk f args, Γ, S => match Φ f with
    | some F => (evs args Γ S).bind F
    | none => .bad
  | .callv i args, Γ, S => match Γ[i]? with
    | some (some (.fn x)) => (match Φ x with
      | some F => (evs args Γ S).bind F
      | none => .bad)
    | _ => .bad
  | .tupS a b, Γ, S => (ev a Γ S).bind fun d S1 => (ev b Γ S1).bind fun e S2 => match vw S2 e with
    | .tup ys => if noLoc d = true ∧ ys.length + 1 ≤ szL then .ok (.tup (d :: ys)) S2 else .bad
    | _ => .bad
  | .lc elt tg ik ia cond own, Γ, S => (evs ia Γ S).bind fun ds S1 => match itD ik ds with
    | some items => if items.length ≤ szL then lcLoop (ev cond) (ev elt) tg (wipeG Γ (own.map (·.2))) items [] S1 else .bad
    | none => .bad
@[simp] def evs : List CE → Gam → Sto → RA
  | [], _, S => .ok [] S
  | c :: cs, Γ, S => match ev c Γ S with
    | .ok d S1 => match evs cs Γ S1 with
      | .ok ds S2 => .ok (d :: ds) S2
      | .ex c d S => .ex c d S
      | .bad => .bad
    | .ex c d S => .ex c d S
    | .bad => .bad
end
end
end EK

set_option Elab.async false
set_option linter.all false
set_option maxRecDepth 100000
set_option maxHeartbeats 4000000
namespace EK
open PySem L2 PySem.Spec

/-! ### the check: this term of the small language is that expression -/
def visB (sc : Scope) (x : Str) : Bool := match sc.names.lookup x with
  | some .local => true
  | some .cell => true
  | some .free => true
  | _ => false
def glB (sc : Scope) (x : Str) : Bool := match sc.names.lookup x with
  | some .globalImplicit => !(x == ("__debug__" : Str)) && !(x == ("__name__" : Str))
  | _ => false
def varB (sc : Scope) (N : List Str) (i : Nat) (x : Str) : Bool := decide (N[i]? = some x) && visB sc x && !(x == ("__debug__" : Str)) && !(x == ("__classdict__" : Str))
def rlb (scope outer : Scope) : Scope :=
  { scope with names := scope.names.map fun (n, k) => if (k == .free && outer.kind == .function && outer.names.lookup n == some .cell) then (n, .cell) else (n, k) }
def conB : D → Const → Bool
  | .non, .none => true
  | .bl b, .bool c => b == c
  | .int i, .int j => decide (i = j)
  | .str s, .str x => decide (x = ⟨s.toArray⟩)
  | _, _ => false
def keyB : Key → Const → Bool
  | .inl i, .int j => decide (i = j)
  | .inr x, .str y => decide (x = y)
  | _, _ => false
/-- not a display with a star, not a set display -/
def plainB : Expr → Bool
  | .Starred .. => false
  | .Set .. => false
  | .Slice .. => false
  | _ => true
def plainT : Expr → Bool
  | .BoolOp .. => false
  | .UnaryOp .Not .. => false
  | .IfExp .. => false
  | .Compare .. => false
  | _ => true
def notIf : Expr → Bool
  | .IfExp .. => false
  | _ => true
/-- a base of an attribute that is no call super() -/
def baseB : Expr → Bool
  | .Call (.Name _ _) [] [] _ => false
  | _ => true
/-- a name that may be stored: a local one, and, where cl says so, one that is captured -/
def okLoc (cl : Bool) (sc : Scope) (x : Str) : Bool := match sc.names.lookup x with
  | some .local => true
  | some .cell => cl
  | _ => false
def tgsB (cl : Bool) (sc : Scope) (N : List Str) : List Nat → List Expr → Bool
  | [], [] => true
  | i :: is, .Name x _ :: es => decide (N[i]? = some x) && okLoc cl sc x && tgsB cl sc N is es
  | _, _ => false
def tgB (cl : Bool) (sc : Scope) (N : List Str) : Tg → Expr → Bool
  | .one i, .Name x _ => decide (N[i]? = some x) && okLoc cl sc x
  | .many is, .Tuple es _ _ => tgsB cl sc N is es
  | _, _ => false
def tgIs : Tg → List Nat
  | .one i => [i]
  | .many is => is
def keysB : List Key → List (Option Expr) → Bool
  | [], [] => true
  | k :: ks, some (.Constant c _ _) :: r => keyB k c && keysB ks r
  | _, _ => false
section
variable (N : List Str)
mutual
def chk : Scope → CE → Expr → Bool
  | sc, .var i, e => match e with
    | .Name x _ => varB sc N i x
    | _ => false
  | sc, .con d, e => match e with
    | .Constant c _ _ => conB d c
    | _ => false
  | sc, .glob y, e => match e with
    | .Name x _ => decide (x = y) && glB sc x
    | _ => false
  | sc, .bin op a b, e => match e with
    | .BinOp x op' y _ => decide (op = op') && chk sc a x && chk sc b y
    | _ => false
  | sc, .neg a, e => match e with
    | .UnaryOp .USub x _ => chk sc a x
    | _ => false
  | sc, .not a, e => match e with
    | .UnaryOp .Not x _ => notIf x && chk sc a x
    | _ => false
  | sc, .cmp op a b, e => match e with
    | .Compare x [op'] [y] _ => decide (op = op') && plainB y && chk sc a x && chk sc b y
    | _ => false
  | sc, .chain o1 o2 a b c, e => match e with
    | .Compare x [p1, p2] [y, z] _ => decide (o1 = p1) && decide (o2 = p2) && plainB y && plainB z && chk sc a x && chk sc b y && chk sc c z
    | _ => false
  | sc, .and a b, e => match e with
    | .BoolOp .And (x :: y :: []) _ => notIf x && notIf y && chk sc a x && chk sc b y
    | .BoolOp .And (x :: y :: z :: r) p => notIf x && chk sc a x && chk sc b (.BoolOp .And (y :: z :: r) p)
    | _ => false
  | sc, .or a b, e => match e with
    | .BoolOp .Or (x :: y :: []) _ => notIf x && notIf y && chk sc a x && chk sc b y
    | .BoolOp .Or (x :: y :: z :: r) p => notIf x && chk sc a x && chk sc b (.BoolOp .Or (y :: z :: r) p)
    | _ => false
  | sc, .ite c a b, e => match e with
    | .IfExp x y z _ => notIf x && chk sc c x && chk sc a y && chk sc b z
    | _ => false
  | sc, .call f args, e => match e with
    | .Call (.Name x _) (a :: as) [] _ => decide (x = f) && glB sc x && chks sc args (a :: as)
    | .Call (.Name x _) [] [] _ => decide (x = f) && glB sc x && chks sc args []
    | _ => false
  | sc, .blt f args, e => match e with
    | .Call (.Name x _) (a :: as) [] _ => decide (x = bfName f) && glB sc x && chks sc args (a :: as)
    | _ => false
  | sc, .isi a T, e => match e with
    | .Call (.Name x _) [y, .Name t _] [] _ => decide (x = ("isinstance" : Str)) && glB sc x && decide (t = (T : Str)) && glB sc t && decide (T ∈ ["str", "int", "bool", "tuple", "list"]) && plainB y && chk sc a y
    | _ => false
  | sc, .mth m o a, e => match e with
    | .Call (.Attribute x n ap) [y] [] cp => (match m with | .join => decide (n = ("join" : Str)) | .index => decide (n = ("index" : Str)) | .count => decide (n = ("count" : Str))) && baseB x && plainB y && (ap.endLine == cp.line) && chk sc o x && chk sc a y
    | _ => false
  | sc, .dget o k d, e => match e with
    | .Call (.Attribute x n ap) [y, z] [] cp => decide (n = ("get" : Str)) && baseB x && plainB y && plainB z && (ap.endLine == cp.line) && chk sc o x && chk sc k y && chk sc d z
    | _ => false
  | sc, .idx a b, e => match e with
    | .Subscript x y _ => plainB y && chk sc a x && chk sc b y
    | _ => false
  | sc, .sl a lo hi, e => match e with
    | .Subscript x (.Slice l h none _) _ => chk sc a x && (match l with | none => nonC lo | some y => !nonC lo && chk sc lo y) && (match h with | none => nonC hi | some y => !nonC hi && chk sc hi y)
    | _ => false
  | sc, .rev a, e => match e with
    | .Subscript x (.Slice none none (some (.UnaryOp .USub (.Constant (.int 1) _ _) _)) _) _ => chk sc a x
    | _ => false
  | sc, .tup es, e => match e with
    | .Tuple xs _ _ => chks sc es xs
    | _ => false
  | sc, .lst es, e => match e with
    | .List xs _ => chks sc es xs
    | _ => false
  | sc, .dic ks vs, e => match e with
    | .Dict keys values _ => decide (keys.length ≠ 0) && decide (keys.length = values.length ∧ keys.length ≤ 15) && keysB ks keys && chks sc vs values
    | _ => false
  | sc, .fnv y, e => match e with
    | .Name x _ => decide (x = y) && glB sc x
    | _ => false
  | sc, .callk f args, e => match e with
    | .Call (.Name x _) [] kws _ => decide (x = f) && glB sc x && decide (kwT.lookup x = some (kws.filterMap (·.arg))) && kws.all (·.arg.isSome) && chks sc args (kws.map (·.value))
    | _ => false
  | sc, .callv i args, e => match e with
    | .Call (.Name x _) (a :: as) [] _ => varB sc N i x && chks sc args (a :: as)
    | _ => false
  | sc, .tupS a b, e => match e with
    | .Tuple [x, .Starred y _] _ _ => plainB x && plainB y && chk sc a x && chk sc b y
    | _ => false
  | sc, .lc elt tg ik ia cond own, e => match e with
    | .ListComp el [⟨tgt, iter, ifs, 0⟩] scope _ => plainB iter && blkC N sc scope own && tgB false (rlb scope sc) N tg tgt && (tgIs tg).all (fun i => (own.map (·.2)).contains i) && chk (rlb scope sc) elt el &&
        (match ifs with | [] => (match cond with | .con (.bl true) => true | _ => false) | [c] => notIf c && chk (rlb scope sc) cond c | _ => false) &&
        (match ik with
          | .seq => (match ia with | [a] => chk sc a iter | _ => false)
          | .rng => (match iter with | .Call (.Name x _) xs [] _ => decide (x = ("range" : Str)) && glB sc x && decide (1 ≤ xs.length) && decide (xs.length ≤ 3) && chks sc ia xs | _ => false)
          | .zip => (match iter, tgt with | .Call (.Name x _) [p, q] [] _, .Tuple .. => decide (x = ("zip" : Str)) && glB sc x && chks sc ia [p, q] | .Call (.Name x _) [p, q, r] [] _, .Tuple .. => decide (x = ("zip" : Str)) && glB sc x && chks sc ia [p, q, r] | _, _ => false)
          | .enm => (match iter, tgt with | .Call (.Name x _) [p] [] _, .Tuple .. => decide (x = ("enumerate" : Str)) && glB sc x && chks sc ia [p] | _, _ => false))
    | _ => false
def chks : Scope → List CE → List Expr → Bool
  | _, [], es => es.isEmpty
  | sc, c :: cs, es => match es with
    | e :: es => plainB e && chk sc c e && chks sc cs es
    | [] => false
end
end
end EK

set_option Elab.async false
set_option linter.all false
set_option maxRecDepth 100000
set_option maxHeartbeats 4000000
namespace EK
open PySem L2 PySem.Spec PyProof.Rows
/-! ### calls where no text of a thing is being made (no guard is up) -/
/-- room for k calls, and no guard -/
structure Rm (k : Nat) (A : Around) : Prop where
  rm : Room k A
  gd : A.guards = some []
theorem Rm.mono {j k : Nat} {A : Around} (r : Rm k A) (h : j ≤ k) : Rm j A := ⟨r.rm.mono h, r.gd⟩
/-- the def at f keeps the promise sp where no guard is up -/
structure FnG (P : Program) (w : World) (K : PySem.W.Frag) (mg : Str → Option Value) (base : Heap) (Xc : CXT) (k : Nat) (f : Addr) (fd : FuncData) (ps : List Str) (sp : Sp) : Prop where
  lng : ∀ vs H Q E, sp vs H Q E → vs.length = ps.length
  go : ∀ (A : Around) (outer : List Env) (s : Shared) (H : Hp) (args : Args) (us : List Value) (vs : List V) (Q : VK) (E : XK),
    Rm k A → Env0 P w K mg base A outer s H → BindsTo s fd args (ps.zip us) → Vals vs us → sp vs H Q E →
      codeAny (model P w) A (.call (.ref f) args) (CR Xc outer P w H s Q E) s
section
variable {P : Program} {w : World} {K : PySem.W.Frag} {mg : Str → Option Value} {base : Heap} {Xc : CXT} {j k : Nat} {f : Addr} {fd : FuncData} {ps : List Str} {sp : Sp}
theorem FnG.mono (F : FnG P w K mg base Xc j f fd ps sp) (h : j ≤ k) : FnG P w K mg base Xc k f fd ps sp :=
  ⟨F.lng, fun A outer s H args us vs Q E r => F.go A outer s H args us vs Q E (r.mono h)⟩
theorem FnG.imp {sp' : Sp} (F : FnG P w K mg base Xc k f fd ps sp) (h : ∀ vs H Q E, sp' vs H Q E → sp vs H Q E) : FnG P w K mg base Xc k f fd ps sp' :=
  ⟨fun vs H Q E q => F.lng vs H Q E (h _ _ _ _ q), fun A outer s H args us vs Q E r e b v z => F.go A outer s H args us vs Q E r e b v (h _ _ _ _ z)⟩
/-- the rule for a def: its body's reading -/
theorem _root_.L2.FunD.okG {N : List Str} {x qual : Str} {params : Arguments} {body : List Stmt} {scope : Scope} {dvs : List V} {kws : List (Str × V)} (F : FunD K x qual params body scope dvs kws f fd) (S : FnScope N ps scope)
    (lng : ∀ vs H Q E, sp vs H Q E → vs.length = ps.length)
    (bd : ∀ (cdv : Value) (A : Around) (outer : List Env) (s : Shared) (H : Hp) (vs : List V) (Q : VK) (E : XK), Rm k (A.deeper (envOfC qual scope s.heap.objs.size f cdv)) → sp vs H Q E →
      ∃ t, PSs (cxOf Xc P w K mg base N qual scope f cdv A outer s H E) body t ∧ t { nx := fun _ H' => Q .non H', rt := Q } (start N vs) H) : FnG P w K mg base Xc (k + 1) f fd ps sp := by
  obtain ⟨oc, od, dV, kV, doc, pm, an, cdv, ct, osl, rfl, lk, hcd, _, _⟩ := F.ex
  refine ⟨lng, ?_⟩
  intro A outer s H args us vs Q E rr en bi vl z
  have there : K.In s.heap := en.mod.kin.keeps fun b o q => (en.bs b o q).1
  have kinds : ∀ y ∈ ps.zip us, scope.names.lookup y.1 = some .local ∨ (scope.names.lookup y.1 = some .cell ∧ ((cellsFrom (s.heap.objs.size + 1) scope.names []).lookup y.1).isSome = true) := by
    rintro ⟨n, v⟩ hy
    exact (S.par n (List.of_mem_zip hy).1).imp id fun q => ⟨q, PySem.W.cellsFrom_some _ _ _ (.inl q)⟩
  apply codeAny_call_function rr.rm.depth (there _ _ lk) rfl S.co S.gen rfl (PySem.W.codeRec_of there hcd)
  apply bi
  refine wpAny_newFunctionEnv_cells S.kind kinds fun env ee s1 ic => ?_
  cases ee
  refine ⟨Heap.NoLimit.keeps (en.mod.nolimit.keeps fun b o q => (en.bs b o q).1) ic.toInCall.keep, codeAny_func ?_⟩
  obtain ⟨t, pt, rd⟩ := bd cdv A outer s H vs Q E ⟨rr.rm.deeper _, rr.gd⟩ z
  have J := inv_start (CX := Xc) (E := E) S rr.rm.hd en (lng _ _ _ _ z) vl ic
  refine wpAny_mono (pt.run [] s1 (start N vs) H _ J rd) (fun fl s' out => ?_) fun e s' out => out
  match fl, out with
  | .ret u, ⟨v, σ', H', J', rv, q⟩ => exact ⟨v, H', J'.os, J'.bare, J'.base, J'.hok, rv, q⟩
  | .next, ⟨σ', H', J', q⟩ => exact ⟨.non, H', J'.os, J'.bare, J'.base, J'.hok, rfl, q⟩
  | .brk, ⟨_, _, _, q⟩ => exact q.elim
  | .cont, ⟨_, _, _, q⟩ => exact q.elim
end
section
variable {X : Cx} {Xc : CXT} {k : Nat} {f : Addr} {fd : FuncData} {ps : List Str} {sp : Sp} {E : L2.St → XK} {x : Str} {p pos : Pos} {e : Expr} {es : List Expr} {t : TA}
/-- a callee with this promise runs -/
theorem goG {pins : List (Addr × Obj)} {σ : L2.St} {H : Hp} {s : Shared} {Q : VK} {us : List Value} {vs : List V} (F : FnG X.prog X.w X.K X.mg X.base Xc k f fd ps sp) (hr : Rm k X.A) (hb : Binds X.K fd ps []) (hx : PassesAt Xc X σ (E σ))
    (I : Inv X pins σ H s) (r : Vals vs us) (h : sp vs H Q (E σ)) : wpAny (model X.prog X.w) X.A (call (.ref f) us) (EP X pins σ Q) X.xe s := by
  have lu : us.length = ps.length := r.length ▸ F.lng _ _ _ _ h
  have bb : BindsTo s fd ⟨us, []⟩ (ps.zip us) := by simpa using hb s us I.kIn (by simpa using lu)
  refine wpAny_call (codeAny_mono (F.go X.A X.stack s H ⟨us, []⟩ us vs Q (E σ) hr I.env0 bb r h) ?_)
  intro out s' z
  match out, z with
  | .error e, z => exact hx pins H s e s' I z
  | .ok (.ret u), z => exact I.after z
  | .ok .next, z => exact z.elim
  | .ok .brk, z => exact z.elim
  | .ok .cont, z => exact z.elim
theorem pe_callG (F : FnG X.prog X.w X.K X.mg X.base Xc k f fd ps sp) (hr : Rm k X.A) (hg : Gl X x) (hm : X.mg x = some (.ref f)) (hk : PySem.W.keepIn X.K (.ref f) = true) (hb : Binds X.K fd ps []) (hx : ∀ σ, PassesAt Xc X σ (E σ))
    (ha : PA X (e :: es) t) (hdb : (x == ("__debug__" : Str)) = false) (he : starEach (e :: es) X.env = (false, eval e X.env) :: starEach es X.env) (hpl : (backTo pos (starEach es X.env)).any (·.1) = false) :
    PE X (.Call (.Name x p) (e :: es) [] pos) (tCallS sp E t) := by
  constructor
  intro pins s σ H Q I h
  apply wpAny_Call_Name_kw
  refine ld_glob I hg hm ?_ hdb
  exact PySem.W.callWith_K (h₀ := X.base) I.ok.mod.kin hk (thn (ha.run pos pins s σ H _ I h) fun us s1 ⟨vs, H1, I1, r, q⟩ => ⟨I1.kIn, goG F hr hb (hx σ) I1 r q⟩) he hpl
theorem pe_callG0 (F : FnG X.prog X.w X.K X.mg X.base Xc k f fd ps sp) (hr : Rm k X.A) (hg : Gl X x) (hm : X.mg x = some (.ref f)) (hk : PySem.W.keepIn X.K (.ref f) = true) (hb : Binds X.K fd ps []) (hx : ∀ σ, PassesAt Xc X σ (E σ))
    (hdb : (x == ("__debug__" : Str)) = false) : PE X (.Call (.Name x p) [] [] pos) (tCallS sp E tNil) := by
  constructor
  intro pins s σ H Q I h
  apply wpAny_Call_Name_kw
  refine ld_glob I hg hm ?_ hdb
  exact PySem.W.callWith_K0 I.kIn hk (goG (us := []) F hr hb (hx σ) I .nil h)
/-- how a def takes its arguments by place, and by names where the table has it -/
structure BindsX (K : PySem.W.Frag) (fd : FuncData) (ps : List Str) (x : Str) : Prop where
  b : Binds K fd ps []
  k : ∀ ks, kwT.lookup x = some ks → ∀ (s : Shared) (ws : List Value), K.In s.heap → ws.length = ps.length → BindsTo s fd ⟨[], ks.zip ws⟩ (ps.zip ws)
theorem goGK {pins : List (Addr × Obj)} {σ : L2.St} {H : Hp} {s : Shared} {Q : VK} {us : List Value} {vs : List V} {ks : List Str} (F : FnG X.prog X.w X.K X.mg X.base Xc k f fd ps sp) (hr : Rm k X.A) (hb : ∀ (s : Shared) (ws : List Value), X.K.In s.heap → ws.length = ps.length → BindsTo s fd ⟨[], ks.zip ws⟩ (ps.zip ws)) (hx : PassesAt Xc X σ (E σ))
    (I : Inv X pins σ H s) (r : Vals vs us) (h : sp vs H Q (E σ)) : wpAny (model X.prog X.w) X.A (call (.ref f) [] (ks.zip us)) (EP X pins σ Q) X.xe s := by
  have lu : us.length = ps.length := r.length ▸ F.lng _ _ _ _ h
  refine wpAny_call (codeAny_mono (F.go X.A X.stack s H ⟨[], ks.zip us⟩ us vs Q (E σ) hr I.env0 (hb s us I.kIn lu) r h) ?_)
  intro out s' z
  match out, z with
  | .error e, z => exact hx pins H s e s' I z
  | .ok (.ret u), z => exact I.after z
  | .ok .next, z => exact z.elim
  | .ok .brk, z => exact z.elim
  | .ok .cont, z => exact z.elim
theorem pe_callGK {ks : List Str} {kws : List Keyword} (F : FnG X.prog X.w X.K X.mg X.base Xc k f fd ps sp) (hr : Rm k X.A) (hg : Gl X x) (hm : X.mg x = some (.ref f)) (hk : PySem.W.keepIn X.K (.ref f) = true) (hb : ∀ (s : Shared) (ws : List Value), X.K.In s.heap → ws.length = ps.length → BindsTo s fd ⟨[], ks.zip ws⟩ (ps.zip ws)) (hx : ∀ σ, PassesAt Xc X σ (E σ))
    (hkw : PK X kws t) (hdb : (x == ("__debug__" : Str)) = false) (hall : (backToKw pos (keywordEach kws X.env)).all (·.1.isSome) = true) (hks : (backToKw pos (keywordEach kws X.env)).filterMap (·.1) = ks)
    (hpl : ((backTo pos (starEach [] X.env)).any (·.1) || (backToKw pos (keywordEach kws X.env)).any (·.1.isNone)) = false) :
    PE X (.Call (.Name x p) [] kws pos) (tCallS sp E t) := by
  constructor
  intro pins s σ H Q I h
  apply wpAny_Call_Name_kw
  refine ld_glob I hg hm ?_ hdb
  refine PySem.W.callWith_KW0 (h₀ := X.base) I.ok.mod.kin hk hall (thn (hkw.run pos pins s σ H _ I h) fun us s1 ⟨vs, H1, I1, r, q⟩ => ⟨I1.kIn, ?_⟩) hpl
  rw [hks]
  exact goGK F hr hb (hx σ) I1 r q
/-- a local name that holds one of some defs -/
theorem pe_callVG {J : Addr → Sp → Prop} {i : Nat} (A : ∀ f sp, J f sp → ∃ (fd : FuncData) (ps : List Str) (k : Nat), PySem.W.keepIn X.K (.ref f) = true ∧ Binds X.K fd ps [] ∧ FnG X.prog X.w X.K X.mg X.base Xc k f fd ps sp ∧ Rm k X.A)
    (hN : X.N[i]? = some x) (hv : Vis X.env.scope x) (hx : ∀ σ, PassesAt Xc X σ (E σ)) (ha : PA X (e :: es) t) (hdb : (x == ("__debug__" : Str)) = false) (hcd : (x == ("__classdict__" : Str)) = false)
    (he : starEach (e :: es) X.env = (false, eval e X.env) :: starEach es X.env) (hpl : (backTo pos (starEach es X.env)).any (·.1) = false) :
    PE X (.Call (.Name x p) (e :: es) [] pos) (fun σ H Q => ∃ f sp, σ[i]? = some (some (.ref f)) ∧ J f sp ∧ t σ H fun vs H1 => sp vs H1 Q (E σ)) := by
  constructor
  rintro pins s σ H Q I ⟨f, sp, hs, hJ, ht⟩
  obtain ⟨fd, ps, k, hk, hb, F, hr⟩ := A f sp hJ
  apply wpAny_Call_Name_kw
  refine thn ((pe_var (pos := p) hN hv hdb hcd).run pins s σ H (fun v H1 => v = .ref f ∧ H1 = H) I ⟨.ref f, hs, rfl, rfl⟩) ?_
  rintro u s1 ⟨v, H1, I1, r1, rfl, rfl⟩
  cases r1
  exact PySem.W.callWith_K (h₀ := X.base) I.ok.mod.kin hk (thn (ha.run pos pins s1 σ _ _ I1 ht) fun us s2 ⟨vs, H2, I2, r, q⟩ => ⟨I2.kIn, goG F hr hb (hx σ) I2 r q⟩) he hpl
end
end EK

set_option Elab.async false
set_option linter.all false
set_option maxRecDepth 100000
set_option maxHeartbeats 4000000
namespace EK
open PySem L2 PySem.Spec PyProof.Rows
/-! ### the end of a law over such promises -/
abbrev Law1 (s₁ : Shared) : Result → Shared → Prop := fun r s' => r = .ok (.ret (.bool true)) ∧ OldK s₁.heap s'.heap ∧ s'.os = s₁.os ∧ AllBare s'.gens
section
variable {P : Program} {w : World} {K : PySem.W.Frag} {mg mb : Str → Option Value} {Xc : CXT} {k : Nat} {fa a : Addr} {fd : FuncData} {x : Str} {sp : Sp} {s₁ : Shared} {vs : List Value} {ns : List Int}
theorem law_at {H : Hp} (inK : K.In s₁.heap) (hns : s₁.heap.Ns mainGlobals mg) (nb : s₁.heap.Ns builtinsNs mb) (nbb : ∀ x : Str, x ≠ "__name__" → mb x = bootBuiltins x) (lim : s₁.heap.NoLimit) (g0 : s₁.gens = #[])
    (at_a : s₁.heap.get? a = some { cls := .type "list", data := .seq vs.toArray }) (rr : Rm k callerA) (F : ∀ base : Heap, K.In base → base.Ns mainGlobals mg → FnG P w K mg base Xc k fa fd [x] sp)
    (bnd : ∀ (s : Shared) (u : Value), BindsTo s fd ⟨[u], []⟩ [(x, u)]) (prm : sp [.ref a] H (fun v _ => v = .bl true) fun _ _ _ => False) (calm : ∀ e s', Xc [] H s₁ (fun _ _ _ => False) e s' → False)
    (onl : Only H) (hok : HOk P w H s₁.heap) (just : ∀ b, H b ≠ none → b = a) (away : H a ≠ none → K.lookup a = none) :
    codeAny (model P w) callerA (.call (.ref fa) ⟨[.ref a], []⟩) (Law1 s₁) s₁ := by
  have free : ∀ {b : Addr} {o : Obj} {es : Array DictEntry} {ep : Nat}, s₁.heap.get? b = some o → o.data = .dict es ep → H b = none := by
    intro b o es ep e d
    by_cases n : H b = none
    · exact n
    · have z := just b n
      rw [z, at_a] at e
      cases e
      exact absurd d (fun q => by cases q)
  have names : ∀ {b : Addr} {m : Str → Option Value}, s₁.heap.Ns b m → (hidT s₁.heap H).Ns b m := by
    rintro b m ⟨o, es, ep, e, d, r⟩
    exact ⟨o, es, ep, hidT_get e (free e d), d, r⟩
  have kb : K.In (hidT s₁.heap H) := by
    intro b o e
    refine hidT_get (inK b o e) ?_
    by_cases n : H b = none
    · exact n
    · have z := just b n
      subst z
      rw [away n] at e
      cases e
  obtain ⟨mc, l1, l2⟩ := lim
  have env : Env0 P w K mg (hidT s₁.heap H) callerA [] s₁ H :=
    ⟨rfl, ⟨kb, names hns, ⟨mb, names nb, nbb⟩, ⟨mc, names l1, l2⟩⟩, fun b o e => of_hidT e, Nat.le_of_eq (hidT_size _ _), trivial, (fun b q => by cases (show b ∈ ([] : List Addr) from q)), hok, .of_eq g0⟩
  refine codeAny_mono ((F _ kb (names hns)).go callerA [] s₁ H ⟨[.ref a], []⟩ [.ref a] [.ref a] _ _ rr env (bnd s₁ (.ref a)) (.cons rfl .nil) prm) ?_
  intro r s' out
  match r, out with
  | .error e, out => exact (calm e s' out).elim
  | .ok .next, out => exact out.elim
  | .ok .brk, out => exact out.elim
  | .ok .cont, out => exact out.elim
  | .ok (.ret u), ⟨v, H', os, bare, un, hok', rv, q⟩ =>
    have q : v = .bl true := q
    subst q
    have rv : u = Value.bool true := rv
    subst rv
    refine ⟨rfl, OldK.of_keep ?_, os, bare⟩
    intro b o e
    by_cases n : H b = none
    · exact un.keep b o e n (fun z => by cases (show b ∈ ([] : List Addr) from z)) (by simp)
    · obtain ⟨ob, xs, z⟩ := (onl b).resolve_left n
      have e1 := (hok b _ z).1
      have e2 := (hok' b _ (un.frzs b ob _ z)).1
      rw [e1] at e
      cases e
      exact e2
theorem law_callG (inK : K.In s₁.heap) (hns : s₁.heap.Ns mainGlobals mg) (nb : s₁.heap.Ns builtinsNs mb) (nbb : ∀ x : Str, x ≠ "__name__" → mb x = bootBuiltins x) (lim : s₁.heap.NoLimit) (g0 : s₁.gens = #[])
    (at_a : s₁.heap.get? a = some { cls := .type "list", data := .seq vs.toArray }) (hi : IntsAre vs ns) (hl : ns.length ≤ sizeLine) (rr : Rm k callerA) (F : ∀ base : Heap, K.In base → base.Ns mainGlobals mg → FnG P w K mg base Xc k fa fd [x] sp)
    (bnd : ∀ (s : Shared) (u : Value), BindsTo s fd ⟨[u], []⟩ [(x, u)]) (prm : ∀ H : Hp, Only H → SqL K H a (ns.map V.int) → sp [.ref a] H (fun v _ => v = .bl true) fun _ _ _ => False) (calm : ∀ H e s', Xc [] H s₁ (fun _ _ _ => False) e s' → False) :
    codeAny (model P w) callerA (.call (.ref fa) ⟨[.ref a], []⟩) (Law1 s₁) s₁ := by
  have rv := vals_ints hi
  by_cases c : K.lookup a = none
  · let H0 : Hp := fun b => if b = a then some (.frz { cls := .type "list", data := .seq vs.toArray } (.lst (ns.map V.int))) else none
    have same : H0 a = some (.frz { cls := .type "list", data := .seq vs.toArray } (.lst (ns.map V.int))) := if_pos rfl
    have oth : ∀ b, b ≠ a → H0 b = none := fun b h => if_neg h
    have onl : Only H0 := fun b => by
      by_cases h : b = a
      · rw [h]; exact .inr ⟨_, _, same⟩
      · exact .inl (oth b h)
    refine law_at inK hns nb nbb lim g0 at_a rr F bnd (prm H0 onl (.inl (.inr ⟨_, same⟩))) (calm H0) onl (fun b u z => ?_) (fun b h => ?_) fun _ => c
    · by_cases h : b = a
      · subst h
        rw [same] at z
        cases z
        exact ⟨at_a, by rw [List.length_map]; exact hl, vs, _, rv, at_a⟩
      · rw [oth b h] at z
        cases z
    · by_cases q : b = a
      · exact q
      · exact absurd (oth b q) h
  · obtain ⟨o, c⟩ := Option.ne_none_iff_exists'.mp c
    have e := inK a o c
    rw [at_a] at e
    cases e
    have onl : Only (fun _ => none) := fun _ => .inl rfl
    refine law_at inK hns nb nbb lim g0 at_a rr F bnd (prm _ onl (.inr ⟨_, vs.toArray, _, c, rfl, rfl, rfl, ?_, by simpa using rv⟩)) (calm _) onl (fun b u z => ?_) (fun b h => absurd rfl h) fun h => absurd rfl h
    · rw [List.size_toArray, hi.length]; exact hl
    · have z : (none : Option HO) = some u := z
      cases z
end
/-- a law by the promise of its def -/
theorem walk_ofG {l : PySem.W.OpenLaw} {n k : Nat} {q : Program} {loose : List Str} {XP : (Str → Option Value) → Heap → Prop} {YP : World → Heap → Prop} {d : DefRec} {Xc : CXT} {x : Str}
    (hn : l.most = some n) (hn2 : n ≤ sizeLine) (hdf : d.params.defaults = []) (rr : Rm k callerA)
    (F : ∀ (w : World) (mg : Str → Option Value) (fa : Addr) (h : Heap), YP w h → h.Ns mainGlobals mg → mg d.name = some (.ref fa) → ∃ (K : PySem.W.Frag) (fd : FuncData) (sp : Sp), K.In h ∧
        (∀ (s : Shared) (u : Value), BindsTo s fd ⟨[u], []⟩ [(x, u)]) ∧
        (∀ (H : Hp) (a : Addr) (ns : List Int), ns.length ≤ n → Only H → SqL K H a (ns.map V.int) → sp [.ref a] H (fun v _ => v = .bl true) fun _ _ _ => False) ∧ ∀ base : Heap, K.In base → base.Ns mainGlobals mg → FnG l.prog w K mg base Xc k fa fd [x] sp)
    (calm : ∀ (H : Hp) (s : Shared) (e : Value) (s' : Shared), Xc [] H s (fun _ _ _ => False) e s' → False) : PySem.W.WalkO q loose XP YP l.row.toRowW d [] (fun f vs => PySem.call f vs) := by
  apply Att.attach_call hn hdf
  intro w s₀ s₁ mg mb fa o pm cd doc a vs ns G Y ho hd hcd hmg hobj hints hlen hg
  obtain ⟨K, fd, sp, inK, hb, hsp, hF⟩ := F w mg fa _ Y G.T.g hmg
  exact law_callG inK G.T.g G.T.b G.T.builtins G.T.nolimit hg hobj hints (Nat.le_trans hlen hn2) rr hF hb (fun H onl sq => hsp H a ns hlen onl sq) fun H e s' => calm H s₁ e s'
end EK

set_option Elab.async false
set_option linter.all false
set_option maxRecDepth 100000
set_option maxHeartbeats 4000000
namespace EK
open PySem L2 PySem.Spec

/-! ### readings -/
structure RepG (C : Ct) (H : Hp) (ρ : Rg) (σ : L2.St) (Γ : Gam) : Prop where
  len : Γ.length = σ.length
  at_ : ∀ (i : Nat) (d : D), Γ[i]? = some (some d) → ∃ v, σ[i]? = some (some v) ∧ Rep C H ρ v d
section
variable {C : Ct} {W : WX} {H H' : Hp} {ρ ρ' : Rg} {σ : L2.St} {Γ : Gam} {S S' : Sto}
theorem RepG.nx (N : Nx H ρ H' ρ') (p : Pre ρ ρ') (g : RepG C H ρ σ Γ) : RepG C H' ρ' σ Γ :=
  ⟨g.len, fun i d e => by obtain ⟨v, h1, h2⟩ := g.at_ i d e; exact ⟨v, h1, h2.nx N p⟩⟩
theorem RepG.nx0 (N : Nx H ρ H' ρ) (g : RepG C H ρ σ Γ) : RepG C H' ρ σ Γ := g.nx N fun _ _ e => e
theorem RepG.set (g : RepG C H ρ σ Γ) {i : Nat} {v : V} {d : D} (h : Rep C H ρ v d) : RepG C H ρ (σ.set i (some v)) (Γ.set i (some d)) := by
  refine ⟨by simp [g.len], fun j e q => ?_⟩
  by_cases hj : i = j
  · subst hj
    have hl : i < Γ.length := by have := (List.getElem?_eq_some_iff.mp q).1; simpa using this
    rw [List.getElem?_set_self hl] at q
    cases q
    exact ⟨v, List.getElem?_set_self (by rw [← g.len]; exact hl), h⟩
  · rw [List.getElem?_set_ne hj] at q ⊢
    exact g.at_ j e q
theorem RepG.wipe1 (g : RepG C H ρ σ Γ) {i : Nat} : RepG C H ρ (σ.set i none) (Γ.set i none) := by
  refine ⟨by simp [g.len], fun j e q => ?_⟩
  by_cases hj : i = j
  · subst hj
    have hl : i < Γ.length := by have := (List.getElem?_eq_some_iff.mp q).1; simpa using this
    rw [List.getElem?_set_self hl] at q
    cases q
  · rw [List.getElem?_set_ne hj] at q ⊢
    exact g.at_ j e q
theorem RepG.wipe (g : RepG C H ρ σ Γ) : ∀ vs : List Nat, RepG C H ρ (wipe σ vs) (wipeG Γ vs)
  | [] => g
  | v :: vs => (g.wipe vs).wipe1
def Fin (C : Ct) (W : WX) (ρ : Rg) (σ : L2.St) (H : Hp) (Q : VK) : R → Prop
  | .ok d S' => ∀ v H', Nx H ρ H' ρ → StOk C H' ρ S' → Rep C H' ρ v d → Q v H'
  | .ex c d S' => ∀ (Ca dd : Addr) (v : V) (H' : Hp), C.mg c = some (.ref Ca) → Nx H ρ H' ρ → StOk C H' ρ S' → H' dd = some (.xd [(C.fld c, v)]) → dd ∉ ρ → RepD C H' ρ v d → W (.ref Ca) (some dd) σ H'
  | .bad => False
def FinA (C : Ct) (W : WX) (ρ : Rg) (σ : L2.St) (H : Hp) (Q : List V → Hp → Prop) : RA → Prop
  | .ok ds S' => ∀ vs H', Nx H ρ H' ρ → StOk C H' ρ S' → Paired (Rep C H' ρ) vs ds → Q vs H'
  | .ex c d S' => ∀ (Ca dd : Addr) (v : V) (H' : Hp), C.mg c = some (.ref Ca) → Nx H ρ H' ρ → StOk C H' ρ S' → H' dd = some (.xd [(C.fld c, v)]) → dd ∉ ρ → RepD C H' ρ v d → W (.ref Ca) (some dd) σ H'
  | .bad => False
def tDE (C : Ct) (W : WX) (f : Gam → Sto → R) : TE := fun σ H Q => ∃ ρ Γ S, StOk C H ρ S ∧ RepG C H ρ σ Γ ∧ Fin C W ρ σ H Q (f Γ S)
def tDA (C : Ct) (W : WX) (f : Gam → Sto → RA) : TA := fun σ H Q => ∃ ρ Γ S, StOk C H ρ S ∧ RepG C H ρ σ Γ ∧ FinA C W ρ σ H Q (f Γ S)
/-- a test -/
def FinT (C : Ct) (W : WX) (ρ : Rg) (σ : L2.St) (H : Hp) (Q : Bool → Hp → Prop) : R → Prop
  | .ok d S' => ∃ b, d = .bl b ∧ ∀ H', Nx H ρ H' ρ → StOk C H' ρ S' → Q b H'
  | .ex c d S' => ∀ (Ca dd : Addr) (v : V) (H' : Hp), C.mg c = some (.ref Ca) → Nx H ρ H' ρ → StOk C H' ρ S' → H' dd = some (.xd [(C.fld c, v)]) → dd ∉ ρ → RepD C H' ρ v d → W (.ref Ca) (some dd) σ H'
  | .bad => False
def tDT (C : Ct) (W : WX) (f : Gam → Sto → R) : TT := fun σ H Q => ∃ ρ Γ S, StOk C H ρ S ∧ RepG C H ρ σ Γ ∧ FinT C W ρ σ H Q (f Γ S)
theorem Fin.nx {Q : VK} (N : Nx H ρ H' ρ) : ∀ {r : R}, Fin C W ρ σ H Q r → Fin C W ρ σ H' Q r
  | .ok _ _, h => fun v H2 n s r => h v H2 (N.trans n) s r
  | .ex _ _ _, h => fun Ca dd v H2 e n s q nd r => h Ca dd v H2 e (N.trans n) s q nd r
  | .bad, h => h
theorem FinT.nx {Q : Bool → Hp → Prop} (N : Nx H ρ H' ρ) : ∀ {r : R}, FinT C W ρ σ H Q r → FinT C W ρ σ H' Q r
  | .ok _ _, ⟨b, e, h⟩ => ⟨b, e, fun H2 n s => h H2 (N.trans n) s⟩
  | .ex _ _ _, h => fun Ca dd v H2 e n s q nd r => h Ca dd v H2 e (N.trans n) s q nd r
  | .bad, h => h
/-- one expression, then the rest -/
theorem tDE_bind {f : Gam → Sto → R} {k : D → Sto → R} {Q Q' : VK} (st : StOk C H ρ S) (rg : RepG C H ρ σ Γ) (h : Fin C W ρ σ H Q ((f Γ S).bind k))
    (hk : ∀ d S' v H', Nx H ρ H' ρ → StOk C H' ρ S' → Rep C H' ρ v d → RepG C H' ρ σ Γ → Fin C W ρ σ H' Q (k d S') → Q' v H') : tDE C W f σ H Q' := by
  refine ⟨ρ, Γ, S, st, rg, ?_⟩
  cases e : f Γ S with
  | ok d S' => rw [e] at h; exact fun v H' n s r => hk d S' v H' n s r (rg.nx0 n) (Fin.nx n h)
  | ex c d S' => rw [e] at h; exact h
  | bad => rw [e] at h; exact h
theorem tDE_bindT {f : Gam → Sto → R} {k : D → Sto → R} {Q : Bool → Hp → Prop} {Q' : VK} (st : StOk C H ρ S) (rg : RepG C H ρ σ Γ) (h : FinT C W ρ σ H Q ((f Γ S).bind k))
    (hk : ∀ d S' v H', Nx H ρ H' ρ → StOk C H' ρ S' → Rep C H' ρ v d → RepG C H' ρ σ Γ → FinT C W ρ σ H' Q (k d S') → Q' v H') : tDE C W f σ H Q' := by
  refine ⟨ρ, Γ, S, st, rg, ?_⟩
  cases e : f Γ S with
  | ok d S' => rw [e] at h; exact fun v H' n s r => hk d S' v H' n s r (rg.nx0 n) (FinT.nx n h)
  | ex c d S' => rw [e] at h; exact h
  | bad => rw [e] at h; exact h
theorem tDA_bind {f : Gam → Sto → RA} {k : List D → Sto → R} {Q : VK} {Q' : List V → Hp → Prop} (st : StOk C H ρ S) (rg : RepG C H ρ σ Γ) (h : Fin C W ρ σ H Q ((f Γ S).bind k))
    (hk : ∀ ds S' vs H', Nx H ρ H' ρ → StOk C H' ρ S' → Paired (Rep C H' ρ) vs ds → RepG C H' ρ σ Γ → Fin C W ρ σ H' Q (k ds S') → Q' vs H') : tDA C W f σ H Q' := by
  refine ⟨ρ, Γ, S, st, rg, ?_⟩
  cases e : f Γ S with
  | ok d S' => rw [e] at h; exact fun v H' n s r => hk d S' v H' n s r (rg.nx0 n) (Fin.nx n h)
  | ex c d S' => rw [e] at h; exact h
  | bad => rw [e] at h; exact h
/-- a test first -/
theorem tDT_bind {f : Gam → Sto → R} {k : D → Sto → R} {Q : VK} {Q' : Bool → Hp → Prop} (st : StOk C H ρ S) (rg : RepG C H ρ σ Γ) (h : Fin C W ρ σ H Q ((f Γ S).bind k)) (hb : ∀ d S', k d S' ≠ .bad → ∃ b, d = .bl b)
    (hk : ∀ b S' H', Nx H ρ H' ρ → StOk C H' ρ S' → RepG C H' ρ σ Γ → Fin C W ρ σ H' Q (k (.bl b) S') → Q' b H') : tDT C W f σ H Q' := by
  refine ⟨ρ, Γ, S, st, rg, ?_⟩
  cases e : f Γ S with
  | ok d S' =>
    rw [e] at h
    obtain ⟨b, rfl⟩ := hb d S' (fun z => by have h : Fin C W ρ σ H Q (k d S') := h; rw [z] at h; exact h)
    exact ⟨b, rfl, fun H' n s => hk b S' H' n s (rg.nx0 n) (Fin.nx n h)⟩
  | ex c d S' => rw [e] at h; exact h
  | bad => rw [e] at h; exact h
theorem tDT_bindT {f : Gam → Sto → R} {k : D → Sto → R} {Q Q' : Bool → Hp → Prop} (st : StOk C H ρ S) (rg : RepG C H ρ σ Γ) (h : FinT C W ρ σ H Q ((f Γ S).bind k)) (hb : ∀ d S', k d S' ≠ .bad → ∃ b, d = .bl b)
    (hk : ∀ b S' H', Nx H ρ H' ρ → StOk C H' ρ S' → RepG C H' ρ σ Γ → FinT C W ρ σ H' Q (k (.bl b) S') → Q' b H') : tDT C W f σ H Q' := by
  refine ⟨ρ, Γ, S, st, rg, ?_⟩
  cases e : f Γ S with
  | ok d S' =>
    rw [e] at h
    obtain ⟨b, rfl⟩ := hb d S' (fun z => by have h : FinT C W ρ σ H Q (k d S') := h; rw [z] at h; exact h)
    exact ⟨b, rfl, fun H' n s => hk b S' H' n s (rg.nx0 n) (FinT.nx n h)⟩
  | ex c d S' => rw [e] at h; exact h
  | bad => rw [e] at h; exact h
theorem paired_vw {vs : List V} {ds : List D} (s : StOk C H ρ S) : Paired (Rep C H ρ) vs ds → Paired (VwR C H ρ) vs (ds.map (vw S))
  | .nil => .nil
  | .cons h r => .cons (h.vw s) (paired_vw s r)
theorem paired_nx {vs : List V} {ds : List D} (N : Nx H ρ H' ρ) : Paired (Rep C H ρ) vs ds → Paired (Rep C H' ρ) vs ds
  | .nil => .nil
  | .cons h r => .cons (h.nx0 N) (paired_nx N r)
theorem Rep.d {v : V} {d : D} (h : Rep C H ρ v d) (n : noLoc d = true) : RepD C H ρ v d := by
  rcases h with h | ⟨k, a, rfl, _, _⟩
  · exact h
  · cases n
theorem paired_d : ∀ {vs : List V} {ds : List D}, Paired (Rep C H ρ) vs ds → ds.all noLoc = true → RepA C H ρ vs ds
  | _, _, .nil, _ => .nil
  | _, _, .cons h r, e => by
    rw [List.all_cons, Bool.and_eq_true] at e
    exact .cons (h.d e.1) (paired_d r e.2)
end

/-! ### where one stands -/
def bltNames : List Str := ["len", "abs", "int", "max", "min", "sum", "all", "any", "list", "tuple", "isinstance", "str", "bool", "range", "zip", "enumerate", "repr", "sorted", "set", "dict", "super"]
def spD (C : Ct) (F : Fsem) : Sp := fun vs H Q E => ∃ ds ρ S, StOk C H ρ S ∧ Paired (Rep C H ρ) vs ds ∧ Fin C (fun c d _ H => E c d H) ρ [] H Q (F ds S)
structure At (X : Cx) (C : Ct) (Φ : Str → Option Fsem) (G : Str → Option D) (W : WX) : Prop where
  hK : X.K = C.K
  hmg : X.mg = C.mg
  calm : X.calm = true
  nd : X.N.Nodup
  units : X.A.units + 65 < cLine
  blt : ∀ x, x ∈ bltNames → X.mg x = none
  glob : ∀ x d, G x = some d → ∃ u v, X.mg x = some u ∧ RelV v u ∧ ∀ H ρ, RepD C H ρ v d
  fns : ∀ x F, Φ x = some F → ∃ (f : Addr) (fd : FuncData) (ps : List Str) (k : Nat), X.mg x = some (.ref f) ∧ PySem.W.keepIn X.K (.ref f) = true ∧ BindsX X.K fd ps x ∧
    FnG X.prog X.w X.K X.mg X.base (L2.CX X.prog X.w) k f fd ps (spD C F) ∧ Rm k X.A
  gd : X.A.guards = some []
  tabs : Tabs X.K X.w C
  tk : Takes X W
theorem At.blk {X : Cx} {C : Ct} {Φ : Str → Option Fsem} {G : Str → Option D} {W : WX} (a : At X C Φ G W) (s : Shared) (H : Hp) (scope : Scope) (cenv : Env) (fp : List Addr) : At (X.blk s H scope cenv fp) C Φ G (fun _ _ _ _ => False) :=
  ⟨a.hK, a.hmg, a.calm, a.nd, a.units, a.blt, a.glob, a.fns, a.gd, a.tabs, takes0⟩
theorem star_of {e : Expr} {es : List Expr} {env : Env} (h : plainB e = true) : starEach (e :: es) env = (false, eval e env) :: starEach es env := by
  cases e <;> first | rfl | cases h
theorem plain_ix {b : Expr} (h : plainB b = true) : PlainIx b := by
  intro o i
  cases b <;> first | rfl | cases h
theorem nomark_of {b : Expr} {op : CmpOp} (h : plainB b = true) : behindInMarks op b = false := by
  cases b <;> first | rfl | cases h
theorem folded_of {e : Expr} {env : Env} (h : plainB e = true) : ∀ x, foldedSetIterable e env x = pure x := by
  intro x
  cases e <;> first | rfl | cases h
theorem base_of {e : Expr} {n : Str} {env : Env} (h : baseB e = true) : attributeBase e n env (eval e env) = eval e env := by
  unfold baseB at h
  split at h
  · cases h
  · rename_i hn
    cases e with
    | Call f as ks p =>
      cases f with
      | Name x q =>
        cases as with
        | nil => cases ks with
          | nil => exact absurd rfl (hn _ _ _)
          | cons _ _ => rfl
        | cons _ _ => rfl
      | _ => rfl
    | _ => rfl
theorem plainT_of {e : Expr} {env : Env} (h : plainT e = true) : ∀ whole, isTrue e env whole = (do let v ← whole; standAt e.pos; holding [v] (truthy v)) := by
  intro w
  cases e with
  | UnaryOp op x p => cases op <;> first | rfl | cases h
  | _ => first | rfl | cases h
end EK

set_option Elab.async false
set_option linter.all false
set_option maxRecDepth 100000
set_option maxHeartbeats 4000000
namespace EK
open PySem L2 PySem.Spec
theorem _root_.L2.PE.mono {X : Cx} {e : Expr} {t t' : TE} (h : PE X e t) (i : ∀ σ H Q, t' σ H Q → t σ H Q) : PE X e t' := ⟨fun pins s σ H Q I q => h.run pins s σ H Q I (i σ H Q q)⟩
theorem _root_.L2.PT.mono {X : Cx} {e : Expr} {t t' : TT} (h : PT X e t) (i : ∀ σ H Q, t' σ H Q → t σ H Q) : PT X e t' := ⟨fun pins s σ H Q I q => h.run pins s σ H Q I (i σ H Q q)⟩
theorem _root_.L2.PW.mono {X : Cx} {e : Expr} {t t' : TT} (h : PW X e t) (i : ∀ σ H Q, t' σ H Q → t σ H Q) : PW X e t' := ⟨fun w pins s σ H Q I q => h.run w pins s σ H Q I (i σ H Q q)⟩
theorem _root_.L2.PA.mono {X : Cx} {e : List Expr} {t t' : TA} (h : PA X e t) (i : ∀ σ H Q, t' σ H Q → t σ H Q) : PA X e t' := ⟨fun p pins s σ H Q I q => h.run p pins s σ H Q I (i σ H Q q)⟩
section
variable {X : Cx} {C : Ct} {Φ : Str → Option Fsem} {G : Str → Option D} {W : WX} {e : Expr} {f : Gam → Sto → R} {t : TE}
theorem Rep.bl {H : Hp} {ρ : Rg} {v : V} {b : Bool} (h : Rep C H ρ v (.bl b)) : v = .bl b := by
  rcases h with h | ⟨_, _, z, _⟩
  · cases h; rfl
  · cases z
theorem tDT_tDE {σ : L2.St} {H : Hp} {Q : Bool → Hp → Prop} (h : tDT C W f σ H Q) : tDE C W f σ H (fun x H' => ∃ k, x = .bl k ∧ Q k H') := by
  obtain ⟨ρ, Γ, S, st, rg, h⟩ := h
  refine ⟨ρ, Γ, S, st, rg, ?_⟩
  cases e : f Γ S with
  | ok d S' =>
    rw [e] at h
    obtain ⟨b, rfl, h⟩ := h
    exact fun v H' n s r => ⟨b, r.bl, h H' n s⟩
  | ex c d S' => rw [e] at h; exact h
  | bad => rw [e] at h; exact h
theorem pt_plain (h : PE X e (tDE C W f)) (hp : plainT e = true) : PT X e (tDT C W f) := (pt_val h (plainT_of hp)).mono fun _ _ _ q => tDT_tDE q
/-- what is shown of each term -/
def Good (X : Cx) (C : Ct) (W : WX) (e : Expr) (f : Gam → Sto → R) : Prop :=
  PE X e (tDE C W f) ∧ (notIf e = true → PT X e (tDT C W f)) ∧ ∀ op vs p, e = .BoolOp op vs p → PW X e (tDT C W f)
theorem good_plain (h : PE X e (tDE C W f)) (hp : plainT e = true) : Good X C W e f :=
  ⟨h, fun _ => pt_plain h hp, fun op vs p z => by subst z; cases hp⟩
theorem lift_fin {ρ : Rg} {σ : L2.St} {H : Hp} {Q : VK} {o : Option D} {S : Sto} (h : Fin C W ρ σ H Q (.lift o S)) : ∃ d, o = some d ∧ ∀ v H', Nx H ρ H' ρ → StOk C H' ρ S → RepD C H' ρ v d → Q v H' := by
  cases o with
  | none => exact h.elim
  | some d => exact ⟨d, rfl, fun v H' n s r => h v H' n s (.inl r)⟩
theorem g_var (a : At X C Φ G W) {i : Nat} (h : chk X.N X.env.scope (.var i) e = true) : Good X C W e (ev Φ G (.var i)) := by
  rw [chk.eq_def] at h
  dsimp only at h
  split at h
  · rename_i x p
    unfold varB at h
    rw [Bool.and_eq_true, Bool.and_eq_true, Bool.and_eq_true, decide_eq_true_iff] at h
    obtain ⟨⟨⟨h1, h2⟩, h3⟩, h4⟩ := h
    have hv : Vis X.env.scope x := by
      unfold visB at h2
      split at h2
      · exact .inl (by assumption)
      · exact .inr (.inl (by assumption))
      · exact .inr (.inr (by assumption))
      · cases h2
    refine good_plain ((pe_var (pos := p) h1 hv (by simpa using h3) (by simpa using h4)).mono fun σ H Q q => ?_) rfl
    obtain ⟨ρ, Γ, S, st, rg, q⟩ := q
    rw [ev] at q
    split at q
    · rename_i d hd
      obtain ⟨v, e1, e2⟩ := rg.at_ i d hd
      exact ⟨v, e1, q v H (Nx.refl H ρ) st e2⟩
    · exact q.elim
  · cases h
theorem g_con (a : At X C Φ G W) {d : D} (h : chk X.N X.env.scope (.con d) e = true) : Good X C W e (ev Φ G (.con d)) := by
  rw [chk.eq_def] at h
  dsimp only at h
  split at h
  · rename_i c k p
    have key : ∀ {v : V}, (∀ H ρ, RepD C H ρ v d) → PE X (.Constant c k p) (tC v) → Good X C W (.Constant c k p) (ev Φ G (.con d)) := fun {v} hr hp =>
      good_plain (hp.mono fun σ H Q q => by
        obtain ⟨ρ, Γ, S, st, rg, q⟩ := q
        rw [ev] at q
        exact q v H (Nx.refl H ρ) st (.inl (hr H ρ))) rfl
    unfold conB at h
    split at h
    · exact key (fun _ _ => .non) pe_non
    · rw [beq_iff_eq] at h; subst h; exact key (fun _ _ => .bl _) pe_bl
    · rw [decide_eq_true_iff] at h; subst h; exact key (fun _ _ => .int _) pe_int
    · rw [decide_eq_true_iff] at h; subst h; exact key (fun _ _ => .str _) pe_str
    · cases h
  · cases h
theorem gl_of {x : Str} (h : glB X.env.scope x = true) : Gl X x ∧ (x == ("__debug__" : Str)) = false ∧ x ≠ "__name__" := by
  unfold glB at h
  split at h
  · rename_i hx
    rw [Bool.and_eq_true] at h
    exact ⟨hx, by simpa using h.1, by simpa using h.2⟩
  · cases h
theorem g_glob (a : At X C Φ G W) {y : Str} (h : chk X.N X.env.scope (.glob y) e = true) : Good X C W e (ev Φ G (.glob y)) := by
  rw [chk.eq_def] at h
  dsimp only at h
  split at h
  · rename_i x p
    rw [Bool.and_eq_true, decide_eq_true_iff] at h
    obtain ⟨rfl, h2⟩ := h
    obtain ⟨g1, g2, g3⟩ := gl_of h2
    cases hd : G x with
    | none =>
      refine good_plain ⟨fun pins s σ H Q I q => ?_⟩ rfl
      obtain ⟨ρ, Γ, S, st, rg, q⟩ := q
      rw [ev, hd] at q
      exact q.elim
    | some d =>
      obtain ⟨u, v, hm, hr, hd2⟩ := a.glob x d hd
      refine good_plain ((pe_glob (pos := p) g1 hm hr g2).mono fun σ H Q q => ?_) rfl
      obtain ⟨ρ, Γ, S, st, rg, q⟩ := q
      rw [ev, hd] at q
      exact q v H (Nx.refl H ρ) st (.inl (hd2 H ρ))
  · cases h
/-- two operands, a rule of values -/
theorem two_imp {fa fb : Gam → Sto → R} {g : D → D → Option D} {σ : L2.St} {H : Hp} {Q : VK} (q : tDE C W (fun Γ S => (fa Γ S).bind fun d S1 => (fb Γ S1).bind fun e S2 => .lift (g (vw S2 d) (vw S2 e)) S2) σ H Q) :
    tOp (rP2 C g) (tDE C W fa) (tDE C W fb) σ H Q := by
  obtain ⟨ρ, Γ, S, st, rg, q⟩ := q
  refine tDE_bind st rg q fun d S1 x H1 n1 s1 r1 rg1 q1 => ?_
  refine tDE_bind s1 rg1 q1 fun e S2 y H2 n2 s2 r2 rg2 q2 => ?_
  obtain ⟨z, hz, q3⟩ := lift_fin q2
  exact ⟨ρ, S2, _, _, z, s2, (r1.nx0 n2).vw s2, r2.vw s2, hz, q3⟩
theorem and2 {a b : Bool} (h : (a && b) = true) : a = true ∧ b = true := Bool.and_eq_true_iff.mp h
theorem g_bin (a : At X C Φ G W) {op : Operator} {c1 c2 : CE} (h : chk X.N X.env.scope (.bin op c1 c2) e = true) (i1 : ∀ e, chk X.N X.env.scope c1 e = true → Good X C W e (ev Φ G c1)) (i2 : ∀ e, chk X.N X.env.scope c2 e = true → Good X C W e (ev Φ G c2)) :
    Good X C W e (ev Φ G (.bin op c1 c2)) := by
  rw [chk.eq_def] at h
  dsimp only at h
  split at h
  · rename_i x op' y p
    obtain ⟨h, h3⟩ := and2 h
    obtain ⟨h1, h2⟩ := and2 h
    rw [decide_eq_true_iff] at h1
    subst h1
    refine good_plain ((pe_op (op_binP a.hK op) (i1 x h2).1 (i2 y h3).1).mono fun σ H Q q => two_imp ?_) rfl
    obtain ⟨ρ, Γ, S, st, rg, q⟩ := q
    rw [ev] at q
    exact ⟨ρ, Γ, S, st, rg, q⟩
  · cases h
theorem g_cmp (a : At X C Φ G W) {op : CmpOp} {c1 c2 : CE} (h : chk X.N X.env.scope (.cmp op c1 c2) e = true) (i1 : ∀ e, chk X.N X.env.scope c1 e = true → Good X C W e (ev Φ G c1)) (i2 : ∀ e, chk X.N X.env.scope c2 e = true → Good X C W e (ev Φ G c2)) :
    Good X C W e (ev Φ G (.cmp op c1 c2)) := by
  rw [chk.eq_def] at h
  dsimp only at h
  split at h
  · rename_i x op' y p
    obtain ⟨h, h3⟩ := and2 h
    obtain ⟨h, h2⟩ := and2 h
    obtain ⟨h1, h4⟩ := and2 h
    rw [decide_eq_true_iff] at h1
    subst h1
    have imp : ∀ σ H Q, tDE C W (ev Φ G (.cmp op c1 c2)) σ H Q → tOp (rP2 C (cmpD op)) (tDE C W (ev Φ G c1)) (tDE C W (ev Φ G c2)) σ H Q := fun σ H Q q => two_imp (by
      obtain ⟨ρ, Γ, S, st, rg, q⟩ := q
      rw [ev] at q
      exact ⟨ρ, Γ, S, st, rg, q⟩)
    exact ⟨(pe_cmpR (op_cmpP a.hK a.units op) (i1 x h2).1 (i2 y h3).1 (nomark_of h4)).mono imp,
      fun _ => (pt_cmpR (op_cmpP a.hK a.units op) (i1 x h2).1 (i2 y h3).1 (nomark_of h4)).mono fun σ H Q q => imp _ _ _ (tDT_tDE q), fun _ _ _ z => by cases z⟩
  · cases h
theorem lift_bl {o : Option D} (h : ∃ k : Bool, o = some (.bl k)) : True := trivial
theorem cmpD_bl {op : CmpOp} {a b z : D} (h : cmpD op a b = some z) : ∃ k, z = .bl k := by
  cases op <;> (simp only [cmpD, Option.map_eq_some_iff] at h; obtain ⟨k, _, rfl⟩ := h; exact ⟨_, rfl⟩)
theorem g_chain (a : At X C Φ G W) {o1 o2 : CmpOp} {c1 c2 c3 : CE} (h : chk X.N X.env.scope (.chain o1 o2 c1 c2 c3) e = true) (i1 : ∀ e, chk X.N X.env.scope c1 e = true → Good X C W e (ev Φ G c1)) (i2 : ∀ e, chk X.N X.env.scope c2 e = true → Good X C W e (ev Φ G c2))
    (i3 : ∀ e, chk X.N X.env.scope c3 e = true → Good X C W e (ev Φ G c3)) : Good X C W e (ev Φ G (.chain o1 o2 c1 c2 c3)) := by
  rw [chk.eq_def] at h
  dsimp only at h
  split at h
  · rename_i x p1 p2 y z p
    obtain ⟨h, h7⟩ := and2 h
    obtain ⟨h, h6⟩ := and2 h
    obtain ⟨h, h5⟩ := and2 h
    obtain ⟨h, h4⟩ := and2 h
    obtain ⟨h, h3⟩ := and2 h
    obtain ⟨h1, h2⟩ := and2 h
    rw [decide_eq_true_iff] at h1 h2
    subst h1 h2
    have hm : lastMarks [o1, o2] [y, z] = false := by show behindInMarks o2 z = false; exact nomark_of h4
    have imp : ∀ σ H Q, tDE C W (ev Φ G (.chain o1 o2 c1 c2 c3)) σ H Q → tChain (rP2 C (cmpD o1)) (rP2 C (cmpD o2)) (tDE C W (ev Φ G c1)) (tDE C W (ev Φ G c2)) (tDE C W (ev Φ G c3)) σ H Q := fun σ H Q q => by
      obtain ⟨ρ, Γ, S, st, rg, q⟩ := q
      rw [ev] at q
      refine tDE_bind st rg q fun d S1 x H1 n1 s1 r1 rg1 q1 => ?_
      refine tDE_bind s1 rg1 q1 fun e S2 y H2 n2 s2 r2 rg2 q2 => ?_
      cases hc : cmpD o1 (vw S2 d) (vw S2 e) with
      | none => rw [hc] at q2; exact q2.elim
      | some w =>
        obtain ⟨k, rfl⟩ := cmpD_bl hc
        rw [hc] at q2
        refine ⟨ρ, S2, _, _, _, s2, (r1.nx0 n2).vw s2, r2.vw s2, hc, fun v H3 n3 s3 r3 => ?_⟩
        cases r3
        refine ⟨k, rfl, ?_⟩
        cases k with
        | true =>
          refine tDE_bind s3 (rg2.nx0 n3) (Fin.nx n3 q2) fun f S3 z H4 n4 s4 r4 rg4 q4 => ?_
          obtain ⟨z', hz, q5⟩ := lift_fin q4
          exact ⟨ρ, S3, _, _, z', s4, (r2.nx0 (n3.trans n4)).vw s4, r4.vw s4, hz, q5⟩
        | false => exact q2 _ H3 n3 s3 (.inl (.bl _))
    exact ⟨(pe_chain (op_cmpP a.hK a.units o1) (op_cmpP a.hK a.units o2) (i1 x h5).1 (i2 y h6).1 (i3 z h7).1 hm).mono imp,
      fun _ => (pt_chain (op_cmpP a.hK a.units o1) (op_cmpP a.hK a.units o2) (i1 x h5).1 (i2 y h6).1 (i3 z h7).1 hm).mono fun σ H Q q => imp _ _ _ (tDT_tDE q), fun _ _ _ z => by cases z⟩
  · cases h
theorem g_not (a : At X C Φ G W) {c1 : CE} (h : chk X.N X.env.scope (.not c1) e = true) (i1 : ∀ e, chk X.N X.env.scope c1 e = true → Good X C W e (ev Φ G c1)) : Good X C W e (ev Φ G (.not c1)) := by
  rw [chk.eq_def] at h
  dsimp only at h
  split at h
  · rename_i x p
    obtain ⟨h0, h1⟩ := and2 h
    obtain ⟨g1, g2, _⟩ := i1 x h1
    refine ⟨(pe_not g1).mono fun σ H Q q => ?_, fun _ => (pt_not (g2 h0)).mono fun σ H Q q => ?_, fun _ _ _ z => by cases z⟩
    · obtain ⟨ρ, Γ, S, st, rg, q⟩ := q
      rw [ev] at q
      refine tDE_bind st rg q fun d S1 x H1 n1 s1 r1 rg1 q1 => ?_
      split at q1
      · obtain rfl := r1.bl
        exact ⟨_, rfl, q1 _ H1 (Nx.refl _ _) s1 (.inl (.bl _))⟩
      · exact q1.elim
    · obtain ⟨ρ, Γ, S, st, rg, q⟩ := q
      rw [ev] at q
      refine tDT_bindT st rg q (fun d S' hn => ?_) fun b S1 H1 n1 s1 rg1 q1 => ?_
      · split at hn
        · exact ⟨_, rfl⟩
        · exact absurd rfl hn
      · obtain ⟨b', e', q1⟩ := q1
        cases e'
        exact q1 H1 (Nx.refl _ _) s1
  · cases h
theorem and_bl {k : Sto → R} {r : R} {d : D} {S' : Sto} (hn : (match d with | .bl true => k S' | .bl false => r | _ => R.bad) ≠ .bad) : ∃ b, d = .bl b := by
  split at hn
  · exact ⟨_, rfl⟩
  · exact ⟨_, rfl⟩
  · exact absurd rfl hn
theorem and_core {fa fb : Gam → Sto → R} {x : Expr} {y : Expr} {rest : List Expr} {p : Pos} (ga : PE X x (tDE C W fa)) (ta : PT X x (tDT C W fa)) (gb : PE X (.BoolOp .And (y :: rest) p) (tDE C W fb)) (wb : PW X (.BoolOp .And (y :: rest) p) (tDT C W fb)) :
    Good X C W (.BoolOp .And (x :: y :: rest) p) (fun Γ S => (fa Γ S).bind fun d S1 => match d with | .bl true => fb Γ S1 | .bl false => .ok (.bl false) S1 | _ => .bad) := by
  have hw : PW X (.BoolOp .And (x :: y :: rest) p) (tDT C W (fun Γ S => (fa Γ S).bind fun d S1 => match d with | .bl true => fb Γ S1 | .bl false => .ok (.bl false) S1 | _ => .bad)) := by
    refine (pw_and ta wb).mono fun σ H Q q => ?_
    obtain ⟨ρ, Γ, S, st, rg, q⟩ := q
    refine tDT_bindT st rg q (fun d S' hn => and_bl hn) fun b S1 H1 n1 s1 rg1 q1 => ?_
    cases b with
    | true => exact ⟨ρ, Γ, S1, s1, rg1, q1⟩
    | false =>
      obtain ⟨b', e', q1⟩ := q1
      cases e'
      exact q1 H1 (Nx.refl _ _) s1
  refine ⟨(pe_and ga gb).mono fun σ H Q q => ?_, fun _ => hw.pt, fun _ _ _ _ => hw⟩
  obtain ⟨ρ, Γ, S, st, rg, q⟩ := q
  refine tDE_bind st rg q fun d S1 x H1 n1 s1 r1 rg1 q1 => ?_
  split at q1
  · obtain rfl := r1.bl
    exact ⟨_, rfl, ρ, Γ, S1, s1, rg1, q1⟩
  · obtain rfl := r1.bl
    exact ⟨_, rfl, q1 _ H1 (Nx.refl _ _) s1 (.inl (.bl _))⟩
  · exact q1.elim
theorem or_core {fa fb : Gam → Sto → R} {x : Expr} {y : Expr} {rest : List Expr} {p : Pos} (ga : PE X x (tDE C W fa)) (ta : PT X x (tDT C W fa)) (gb : PE X (.BoolOp .Or (y :: rest) p) (tDE C W fb)) (wb : PW X (.BoolOp .Or (y :: rest) p) (tDT C W fb)) :
    Good X C W (.BoolOp .Or (x :: y :: rest) p) (fun Γ S => (fa Γ S).bind fun d S1 => match d with | .bl true => .ok (.bl true) S1 | .bl false => fb Γ S1 | _ => .bad) := by
  have hw : PW X (.BoolOp .Or (x :: y :: rest) p) (tDT C W (fun Γ S => (fa Γ S).bind fun d S1 => match d with | .bl true => .ok (.bl true) S1 | .bl false => fb Γ S1 | _ => .bad)) := by
    refine (pw_or ta wb).mono fun σ H Q q => ?_
    obtain ⟨ρ, Γ, S, st, rg, q⟩ := q
    refine tDT_bindT st rg q (fun d S' hn => ?_) fun b S1 H1 n1 s1 rg1 q1 => ?_
    · split at hn
      · exact ⟨_, rfl⟩
      · exact ⟨_, rfl⟩
      · exact absurd rfl hn
    cases b with
    | false => exact ⟨ρ, Γ, S1, s1, rg1, q1⟩
    | true =>
      obtain ⟨b', e', q1⟩ := q1
      cases e'
      exact q1 H1 (Nx.refl _ _) s1
  refine ⟨(pe_or ga gb).mono fun σ H Q q => ?_, fun _ => hw.pt, fun _ _ _ _ => hw⟩
  obtain ⟨ρ, Γ, S, st, rg, q⟩ := q
  refine tDE_bind st rg q fun d S1 x H1 n1 s1 r1 rg1 q1 => ?_
  split at q1
  · obtain rfl := r1.bl
    exact ⟨_, rfl, q1 _ H1 (Nx.refl _ _) s1 (.inl (.bl _))⟩
  · obtain rfl := r1.bl
    exact ⟨_, rfl, ρ, Γ, S1, s1, rg1, q1⟩
  · exact q1.elim
theorem ev_and_eq (c1 c2 : CE) : ev Φ G (.and c1 c2) = fun Γ S => (ev Φ G c1 Γ S).bind fun d S1 => match d with | .bl true => ev Φ G c2 Γ S1 | .bl false => .ok (.bl false) S1 | _ => .bad := by
  funext Γ S; rw [ev] <;> rfl
theorem ev_or_eq (c1 c2 : CE) : ev Φ G (.or c1 c2) = fun Γ S => (ev Φ G c1 Γ S).bind fun d S1 => match d with | .bl true => .ok (.bl true) S1 | .bl false => ev Φ G c2 Γ S1 | _ => .bad := by
  funext Γ S; rw [ev] <;> rfl
theorem g_and (a : At X C Φ G W) {c1 c2 : CE} (h : chk X.N X.env.scope (.and c1 c2) e = true) (i1 : ∀ e, chk X.N X.env.scope c1 e = true → Good X C W e (ev Φ G c1)) (i2 : ∀ e, chk X.N X.env.scope c2 e = true → Good X C W e (ev Φ G c2)) :
    Good X C W e (ev Φ G (.and c1 c2)) := by
  rw [ev_and_eq]
  rw [chk.eq_def] at h
  dsimp only at h
  split at h
  · rename_i x y p
    obtain ⟨h, h4⟩ := and2 h
    obtain ⟨h, h3⟩ := and2 h
    obtain ⟨h1, h2⟩ := and2 h
    obtain ⟨g1, g2, _⟩ := i1 x h3
    obtain ⟨k1, k2, _⟩ := i2 y h4
    exact and_core g1 (g2 h1) (pe_one k1) (pw_and1 (k2 h2))
  · rename_i x y z r p
    obtain ⟨h, h4⟩ := and2 h
    obtain ⟨h1, h2⟩ := and2 h
    obtain ⟨g1, g2, _⟩ := i1 x h2
    obtain ⟨k1, k2, k3⟩ := i2 _ h4
    exact and_core g1 (g2 h1) k1 (k3 _ _ _ rfl)
  · cases h
theorem g_or (a : At X C Φ G W) {c1 c2 : CE} (h : chk X.N X.env.scope (.or c1 c2) e = true) (i1 : ∀ e, chk X.N X.env.scope c1 e = true → Good X C W e (ev Φ G c1)) (i2 : ∀ e, chk X.N X.env.scope c2 e = true → Good X C W e (ev Φ G c2)) :
    Good X C W e (ev Φ G (.or c1 c2)) := by
  rw [ev_or_eq]
  rw [chk.eq_def] at h
  dsimp only at h
  split at h
  · rename_i x y p
    obtain ⟨h, h4⟩ := and2 h
    obtain ⟨h, h3⟩ := and2 h
    obtain ⟨h1, h2⟩ := and2 h
    obtain ⟨g1, g2, _⟩ := i1 x h3
    obtain ⟨k1, k2, _⟩ := i2 y h4
    exact or_core g1 (g2 h1) (pe_one k1) (pw_or1 (k2 h2))
  · rename_i x y z r p
    obtain ⟨h, h4⟩ := and2 h
    obtain ⟨h1, h2⟩ := and2 h
    obtain ⟨g1, g2, _⟩ := i1 x h2
    obtain ⟨k1, k2, k3⟩ := i2 _ h4
    exact or_core g1 (g2 h1) k1 (k3 _ _ _ rfl)
  · cases h
theorem g_ite (a : At X C Φ G W) {c c1 c2 : CE} (h : chk X.N X.env.scope (.ite c c1 c2) e = true) (i0 : ∀ e, chk X.N X.env.scope c e = true → Good X C W e (ev Φ G c)) (i1 : ∀ e, chk X.N X.env.scope c1 e = true → Good X C W e (ev Φ G c1)) (i2 : ∀ e, chk X.N X.env.scope c2 e = true → Good X C W e (ev Φ G c2)) :
    Good X C W e (ev Φ G (.ite c c1 c2)) := by
  rw [chk.eq_def] at h
  dsimp only at h
  split at h
  · rename_i x y z p
    obtain ⟨h, h4⟩ := and2 h
    obtain ⟨h, h3⟩ := and2 h
    obtain ⟨h1, h2⟩ := and2 h
    obtain ⟨_, g2, _⟩ := i0 x h2
    refine ⟨(pe_ifExp (g2 h1) (i1 y h3).1 (i2 z h4).1).mono fun σ H Q q => ?_, (fun z => by cases z), fun _ _ _ z => by cases z⟩
    obtain ⟨ρ, Γ, S, st, rg, q⟩ := q
    rw [ev] at q
    refine tDT_bind st rg q (fun d S' hn => ?_) fun b S1 H1 n1 s1 rg1 q1 => ?_
    · split at hn
      · exact ⟨_, rfl⟩
      · exact ⟨_, rfl⟩
      · exact absurd rfl hn
    cases b with
    | true => exact ⟨ρ, Γ, S1, s1, rg1, q1⟩
    | false => exact ⟨ρ, Γ, S1, s1, rg1, q1⟩
  · cases h
end
end EK

set_option Elab.async false
set_option linter.all false
set_option maxRecDepth 100000
set_option maxHeartbeats 4000000
namespace EK
open PySem L2 PySem.Spec
section
variable {X : Cx} {C : Ct} {Φ : Str → Option Fsem} {G : Str → Option D} {W : WX} {e : Expr} {f : Gam → Sto → R} {t : TE}
/-- arguments -/
def GoodA (X : Cx) (C : Ct) (W : WX) (es : List Expr) (f : Gam → Sto → RA) : Prop := PA X es (tDA C W f)
theorem ga_nil (h : chks X.N X.env.scope [] es = true) : GoodA X C W es (evs Φ G []) := by
  rw [chks.eq_def] at h
  dsimp only at h
  have : es = [] := by cases es with | nil => rfl | cons _ _ => cases h
  subst this
  refine pa_nil.mono fun σ H Q q => ?_
  obtain ⟨ρ, Γ, S, st, rg, q⟩ := q
  rw [evs] at q
  exact q [] H (Nx.refl _ _) st .nil
theorem ga_cons {c : CE} {cs : List CE} {es : List Expr} (h : chks X.N X.env.scope (c :: cs) es = true) (i1 : ∀ e, chk X.N X.env.scope c e = true → Good X C W e (ev Φ G c)) (i2 : ∀ es, chks X.N X.env.scope cs es = true → GoodA X C W es (evs Φ G cs)) :
    GoodA X C W es (evs Φ G (c :: cs)) := by
  rw [chks.eq_def] at h
  dsimp only at h
  split at h
  · rename_i e es
    obtain ⟨h, h3⟩ := and2 h
    obtain ⟨h1, h2⟩ := and2 h
    refine (pa_cons (i1 e h2).1 (i2 es h3) (star_of h1)).mono fun σ H Q q => ?_
    obtain ⟨ρ, Γ, S, st, rg, q⟩ := q
    rw [evs] at q
    refine ⟨ρ, Γ, S, st, rg, ?_⟩
    cases e1 : ev Φ G c Γ S with
    | bad => rw [e1] at q; exact q
    | ex c d S' => rw [e1] at q; exact q
    | ok d S1 =>
      rw [e1] at q
      dsimp only at q
      intro v H1 n1 s1 r1
      refine ⟨ρ, Γ, S1, s1, rg.nx0 n1, ?_⟩
      cases e2 : evs Φ G cs Γ S1 with
      | bad => rw [e2] at q; exact q
      | ex c d S' => rw [e2] at q; exact fun Ca dd v H2 e n s q' nd r => q Ca dd v H2 e (n1.trans n) s q' nd r
      | ok ds S2 =>
        rw [e2] at q
        exact fun vs H2 n2 s2 r2 => q (v :: vs) H2 (n1.trans n2) s2 (.cons (r1.nx0 n2) r2)
  · cases h
/-- no star among them -/
theorem plain_back {env : Env} {pos : Pos} : ∀ {cs : List CE} {es : List Expr} {sc : Scope} {N : List Str}, chks N sc cs es = true → (backTo pos (starEach es env)).any (·.1) = false
  | [], es, sc, N, h => by
    rw [chks.eq_def] at h
    dsimp only at h
    have : es = [] := by cases es with | nil => rfl | cons _ _ => cases h
    subst this; rfl
  | c :: cs, es, sc, N, h => by
    rw [chks.eq_def] at h
    dsimp only at h
    split at h
    · rename_i e es
      obtain ⟨h, h3⟩ := and2 h
      obtain ⟨h1, h2⟩ := and2 h
      have ih := plain_back (env := env) (pos := pos) h3
      rw [star_of h1]
      unfold backTo at ih ⊢
      rw [List.map_cons, List.any_cons, ih]; rfl
    · cases h
theorem chks_tail {c : CE} {cs : List CE} {e : Expr} {es : List Expr} {sc : Scope} {N : List Str} (h : chks N sc (c :: cs) (e :: es) = true) : plainB e = true ∧ chk N sc c e = true ∧ chks N sc cs es = true := by
  rw [chks.eq_def] at h
  dsimp only at h
  obtain ⟨h, h3⟩ := and2 h
  obtain ⟨h1, h2⟩ := and2 h
  exact ⟨h1, h2, h3⟩
theorem chks_head {cs : List CE} {e : Expr} {es : List Expr} {sc : Scope} {N : List Str} (h : chks N sc cs (e :: es) = true) : ∃ c cs', cs = c :: cs' := by
  cases cs with
  | nil => rw [chks.eq_def] at h; cases h
  | cons c cs => exact ⟨c, cs, rfl⟩
theorem args_facts {cs : List CE} {e : Expr} {es : List Expr} {sc : Scope} {N : List Str} {env : Env} {pos : Pos} (h : chks N sc cs (e :: es) = true) :
    starEach (e :: es) env = (false, eval e env) :: starEach es env ∧ (backTo pos (starEach es env)).any (·.1) = false := by
  obtain ⟨c, cs', rfl⟩ := chks_head h
  obtain ⟨h1, h2, h3⟩ := chks_tail h
  exact ⟨star_of h1, plain_back h3⟩
theorem g_call (a : At X C Φ G W) {fn : Str} {args : List CE} (h : chk X.N X.env.scope (.call fn args) e = true) (i : ∀ es, chks X.N X.env.scope args es = true → GoodA X C W es (evs Φ G args)) : Good X C W e (ev Φ G (.call fn args)) := by
  rw [chk.eq_def] at h
  dsimp only at h
  split at h
  · rename_i x p y ys q0
    obtain ⟨h, h3⟩ := and2 h
    obtain ⟨h1, h2⟩ := and2 h
    rw [decide_eq_true_iff] at h1
    subst h1
    obtain ⟨g1, g2, g3⟩ := gl_of h2
    cases hF : Φ x with
    | none =>
      refine good_plain ⟨fun pins s σ H Q I q => ?_⟩ rfl
      obtain ⟨ρ, Γ, S, st, rg, q⟩ := q
      rw [ev, hF] at q
      exact q.elim
    | some F =>
      obtain ⟨fa, fd, ps, k, hm, hk, hb, hf, hr⟩ := a.fns x F hF
      obtain ⟨e1, e2⟩ := args_facts (env := X.env) (pos := q0) h3
      refine good_plain ((pe_callG (p := p) hf hr g1 hm hk hb.b (fun σ => passAt a.tk σ) (i _ h3) g2 e1 e2).mono fun σ H Q q => ?_) rfl
      obtain ⟨ρ, Γ, S, st, rg, q⟩ := q
      rw [ev, hF] at q
      refine tDA_bind st rg q fun ds S1 vs H1 n1 s1 r1 rg1 q1 => ?_
      refine ⟨ds, ρ, S1, s1, r1, ?_⟩
      cases hr : F ds S1 with
      | bad => rw [hr] at q1; exact q1
      | ok d S2 => rw [hr] at q1; exact q1
      | ex c d S2 => rw [hr] at q1; exact q1
  · rename_i x p q0
    obtain ⟨h, h3⟩ := and2 h
    obtain ⟨h1, h2⟩ := and2 h
    rw [decide_eq_true_iff] at h1
    subst h1
    obtain ⟨g1, g2, g3⟩ := gl_of h2
    have ha : args = [] := by
      cases args with
      | nil => rfl
      | cons _ _ => rw [chks.eq_def] at h3; cases h3
    subst ha
    cases hF : Φ x with
    | none =>
      refine good_plain ⟨fun pins s σ H Q I q => ?_⟩ rfl
      obtain ⟨ρ, Γ, S, st, rg, q⟩ := q
      rw [ev, hF] at q
      exact q.elim
    | some F =>
      obtain ⟨fa, fd, ps, k, hm, hk, hb, hf, hr⟩ := a.fns x F hF
      refine good_plain ((pe_callG0 (p := p) hf hr g1 hm hk hb.b (fun σ => passAt a.tk σ) g2).mono fun σ H Q q => ?_) rfl
      obtain ⟨ρ, Γ, S, st, rg, q⟩ := q
      rw [ev, hF, evs] at q
      refine ⟨[], ρ, S, st, .nil, ?_⟩
      have q : Fin C W ρ σ H Q ((RA.ok [] S).bind F) := q
      rw [show (RA.ok [] S).bind F = F [] S from rfl] at q
      cases hr : F [] S with
      | bad => rw [hr] at q; exact q
      | ok d S2 => rw [hr] at q; exact q
      | ex c d S2 => rw [hr] at q; exact q
  · cases h

theorem mem_blt {x : Str} (h : (bltNames.contains x) = true) : x ∈ bltNames := by simpa using h
/-- the rule of a built-in by its name -/
theorem bf_rule (a : At X C Φ G W) (b : Bf) {x : Str} {p q0 : Pos} {y : Expr} {ys : List Expr} {ta : TA} (hx : x = bfName b) (hg : Gl X x) (ha : PA X (y :: ys) ta) (e1 : starEach (y :: ys) X.env = (false, eval y X.env) :: starEach ys X.env)
    (e2 : (backTo q0 (starEach ys X.env)).any (·.1) = false) : PE X (.Call (.Name x p) (y :: ys) [] q0) (tCB (rPn C (bfSem b)) ta) := by
  subst hx
  cases b with
  | len => exact pe_callB (call_lenP a.hK) hg (a.blt _ (by decide)) PySem.boot_len ha (by decide) (by decide) e1 e2
  | abs => exact pe_callB call_absP hg (a.blt _ (by decide)) PyProof.Rows.boot_abs ha (by decide) (by decide) e1 e2
  | int => exact pe_callTy call_intP hg (a.blt _ (by decide)) PyProof.Rows.boot_int ha (by decide) (by decide) e1 e2
  | max => exact pe_callB (call_maxP a.hK a.calm a.units) hg (a.blt _ (by decide)) PyProof.Rows.boot_max ha (by decide) (by decide) e1 e2
  | min => exact pe_callB (call_minP a.hK a.calm a.units) hg (a.blt _ (by decide)) PyProof.Rows.boot_min ha (by decide) (by decide) e1 e2
  | sum => exact pe_callB (call_sumP a.hK a.calm) hg (a.blt _ (by decide)) PyProof.Rows.boot_sum ha (by decide) (by decide) e1 e2
  | all => exact pe_callB (call_allP a.calm) hg (a.blt _ (by decide)) (by decide +kernel) ha (by decide) (by decide) e1 e2
  | any => exact pe_callB (call_anyP a.calm) hg (a.blt _ (by decide)) (by decide +kernel) ha (by decide) (by decide) e1 e2
  | list => exact pe_callTy (call_listP a.hK) hg (a.blt _ (by decide)) PyProof.Rows.boot_list ha (by decide) (by decide) e1 e2
  | tuple => exact pe_callTy (call_tupleP a.hK) hg (a.blt _ (by decide)) PyProof.Rows.boot_tuple ha (by decide) (by decide) e1 e2
  | repr => exact pe_callB (call_reprP a.hK a.gd a.units) hg (a.blt _ (by decide)) (by decide +kernel) ha (by decide) (by decide) e1 e2
theorem g_blt (a : At X C Φ G W) {b : Bf} {args : List CE} (h : chk X.N X.env.scope (.blt b args) e = true) (i : ∀ es, chks X.N X.env.scope args es = true → GoodA X C W es (evs Φ G args)) : Good X C W e (ev Φ G (.blt b args)) := by
  rw [chk.eq_def] at h
  dsimp only at h
  split at h
  · rename_i x p y ys q0
    obtain ⟨h, h3⟩ := and2 h
    obtain ⟨h1, h2⟩ := and2 h
    rw [decide_eq_true_iff] at h1
    obtain ⟨g1, g2, g3⟩ := gl_of h2
    obtain ⟨e1, e2⟩ := args_facts (env := X.env) (pos := q0) h3
    refine good_plain ((bf_rule a b h1 g1 (i _ h3) e1 e2).mono fun σ H Q q => ?_) rfl
    obtain ⟨ρ, Γ, S, st, rg, q⟩ := q
    rw [ev] at q
    refine tDA_bind st rg q fun ds S1 vs H1 n1 s1 r1 rg1 q1 => ?_
    obtain ⟨z, hz, q2⟩ := lift_fin q1
    exact ⟨ρ, S1, _, z, s1, paired_vw s1 r1, hz, q2⟩
  · cases h
theorem g_neg (a : At X C Φ G W) {c1 : CE} (h : chk X.N X.env.scope (.neg c1) e = true) (i1 : ∀ e, chk X.N X.env.scope c1 e = true → Good X C W e (ev Φ G c1)) : Good X C W e (ev Φ G (.neg c1)) := by
  rw [chk.eq_def] at h
  dsimp only at h
  split at h
  · rename_i x p
    refine good_plain ((pe_un un_neg (i1 x h).1).mono fun σ H Q q => ?_) rfl
    obtain ⟨ρ, Γ, S, st, rg, q⟩ := q
    rw [ev] at q
    refine tDE_bind st rg q fun d S1 x H1 n1 s1 r1 rg1 q1 => ?_
    obtain ⟨z, hz, q2⟩ := lift_fin q1
    unfold negD at hz
    split at hz
    · cases hz
      rcases r1 with r1 | ⟨_, _, z, _⟩
      · cases r1; exact ⟨_, rfl, q2 _ H1 (Nx.refl _ _) s1 (.int _)⟩
      · cases z
    · cases hz
  · cases h
theorem g_tup (a : At X C Φ G W) {es : List CE} (h : chk X.N X.env.scope (.tup es) e = true) (i : ∀ xs, chks X.N X.env.scope es xs = true → GoodA X C W xs (evs Φ G es)) : Good X C W e (ev Φ G (.tup es)) := by
  rw [chk.eq_def] at h
  dsimp only at h
  split at h
  · rename_i xs k p
    refine good_plain ((pe_tup (i xs h)).mono fun σ H Q q => ?_) rfl
    obtain ⟨ρ, Γ, S, st, rg, q⟩ := q
    rw [ev] at q
    refine tDA_bind st rg q fun ds S1 vs H1 n1 s1 r1 rg1 q1 => ?_
    split at q1
    · rename_i hc
      have ra := paired_d r1 hc.1
      refine ⟨by rw [ra.length, szL_eq]; exact hc.2, fun p hp => ?_⟩
      exact q1 _ _ (Nx.new hp) (s1.new hp) (.inl (.tup (.inl ⟨.inl upd_same, s1.free hp⟩) (ra.nx (Nx.new hp))))
    · exact q1.elim
  · cases h
theorem g_lst (a : At X C Φ G W) {es : List CE} (h : chk X.N X.env.scope (.lst es) e = true) (i : ∀ xs, chks X.N X.env.scope es xs = true → GoodA X C W xs (evs Φ G es)) : Good X C W e (ev Φ G (.lst es)) := by
  rw [chk.eq_def] at h
  dsimp only at h
  split at h
  · rename_i xs p
    refine good_plain ((pe_lst (i xs h)).mono fun σ H Q q => ?_) rfl
    obtain ⟨ρ, Γ, S, st, rg, q⟩ := q
    rw [ev] at q
    refine tDA_bind st rg q fun ds S1 vs H1 n1 s1 r1 rg1 q1 => ?_
    split at q1
    · rename_i hc
      have ra := paired_d r1 hc.1
      refine ⟨by rw [ra.length, szL_eq]; exact hc.2, fun p hp => ?_⟩
      exact q1 _ _ (Nx.new hp) (s1.new hp) (.inl (.lst ⟨upd_same, s1.free hp⟩ (ra.nx (Nx.new hp))))
    · exact q1.elim
  · cases h
theorem g_idx (a : At X C Φ G W) {c1 c2 : CE} (h : chk X.N X.env.scope (.idx c1 c2) e = true) (i1 : ∀ e, chk X.N X.env.scope c1 e = true → Good X C W e (ev Φ G c1)) (i2 : ∀ e, chk X.N X.env.scope c2 e = true → Good X C W e (ev Φ G c2)) :
    Good X C W e (ev Φ G (.idx c1 c2)) := by
  rw [chk.eq_def] at h
  dsimp only at h
  split at h
  · rename_i x y p
    obtain ⟨h, h3⟩ := and2 h
    obtain ⟨h1, h2⟩ := and2 h
    refine good_plain ((pe_ix (ix_P a.hK a.units a.tabs) (i1 x h2).1 (i2 y h3).1 (plain_ix h1)).mono fun σ H Q q => two_imp ?_) rfl
    obtain ⟨ρ, Γ, S, st, rg, q⟩ := q
    rw [ev] at q
    exact ⟨ρ, Γ, S, st, rg, q⟩
  · cases h
theorem opt_part {l : Option Expr} {c : CE} {sc : Scope} (h : (match l with | none => nonC c | some y => !nonC c && chk X.N sc c y) = true) :
    (l = none ∧ nonC c = true) ∨ ∃ y, l = some y ∧ nonC c = false ∧ chk X.N sc c y = true := by
  split at h
  · exact .inl ⟨rfl, h⟩
  · obtain ⟨h1, h2⟩ := and2 h
    exact .inr ⟨_, rfl, by simpa using h1, h2⟩
/-- a bound of a slice -/
theorem part_imp {l : Option Expr} {c : CE} (h : (l = none ∧ nonC c = true) ∨ ∃ y, l = some y ∧ nonC c = false ∧ chk X.N X.env.scope c y = true) (i : ∀ e, chk X.N X.env.scope c e = true → Good X C W e (ev Φ G c)) :
    ∃ to, PO X l to ∧ ∀ (σ : L2.St) (H : Hp) (ρ : Rg) (Γ : Gam) (S : Sto) (Q : VK) (Q' : Option Int → Hp → Prop) (k : D → Sto → R), StOk C H ρ S → RepG C H ρ σ Γ → Fin C W ρ σ H Q ((ev Φ G c Γ S).bind k) → 
      (∀ d S' H', Nx H ρ H' ρ → StOk C H' ρ S' → RepG C H' ρ σ Γ → Fin C W ρ σ H' Q (k d S') → (∃ o, partI c d = some o) ∧ ∀ o, partI c d = some o → Q' o H') → to σ H Q' := by
  rcases h with ⟨rfl, hn⟩ | ⟨y, rfl, hn, hc⟩
  · refine ⟨_, po_none, fun σ H ρ Γ S Q Q' k st rg q hk => ?_⟩
    have e : c = .con .non := by
      unfold nonC at hn
      split at hn
      · rfl
      · cases hn
    subst e
    rw [ev] at q
    exact (hk .non S H (Nx.refl _ _) st rg q).2 none rfl
  · refine ⟨_, po_some (i y hc).1, fun σ H ρ Γ S Q Q' k st rg q hk => ?_⟩
    refine tDE_bind st rg q fun d S1 x H1 n1 s1 r1 rg1 q1 => ?_
    obtain ⟨⟨o, ho⟩, h2⟩ := hk d S1 H1 n1 s1 rg1 q1
    have ho' := ho
    unfold partI at ho
    rw [if_neg (by rw [hn]; decide)] at ho
    split at ho
    · cases ho
      rcases r1 with r1 | ⟨_, _, z, _⟩
      · cases r1; exact ⟨_, rfl, h2 _ ho'⟩
      · cases z
    · cases ho
theorem g_sl (a : At X C Φ G W) {c1 c2 c3 : CE} (h : chk X.N X.env.scope (.sl c1 c2 c3) e = true) (i1 : ∀ e, chk X.N X.env.scope c1 e = true → Good X C W e (ev Φ G c1)) (i2 : ∀ e, chk X.N X.env.scope c2 e = true → Good X C W e (ev Φ G c2))
    (i3 : ∀ e, chk X.N X.env.scope c3 e = true → Good X C W e (ev Φ G c3)) : Good X C W e (ev Φ G (.sl c1 c2 c3)) := by
  rw [chk.eq_def] at h
  dsimp only at h
  split at h
  · rename_i x l hh p1 p2
    obtain ⟨h, h3⟩ := and2 h
    obtain ⟨h1, h2⟩ := and2 h
    obtain ⟨tl, pl, il⟩ := part_imp (opt_part h2) i2
    obtain ⟨th, ph, ih⟩ := part_imp (opt_part h3) i3
    refine good_plain ((pe_slice (sl_P a.hK) (i1 x h1).1 pl ph).mono fun σ H Q q => ?_) rfl
    obtain ⟨ρ, Γ, S, st, rg, q⟩ := q
    rw [ev] at q
    refine tDE_bind st rg q fun d S1 x H1 n1 s1 r1 rg1 q1 => ?_
    refine il σ H1 ρ Γ S1 Q _ _ s1 rg1 q1 fun l S2 H2 n2 s2 rg2 q2 => ?_
    cases e2 : partI c2 l with
    | none => rw [e2] at q2; exact q2.elim
    | some l' =>
      rw [e2] at q2
      refine ⟨⟨l', rfl⟩, fun o eo => ?_⟩
      cases eo
      refine ih σ H2 ρ Γ S2 Q _ _ s2 rg2 q2 fun h S3 H3 n3 s3 rg3 q3 => ?_
      cases e3 : partI c3 h with
      | none => rw [e3] at q3; exact q3.elim
      | some h' =>
        rw [e3] at q3
        refine ⟨⟨h', rfl⟩, fun o eo => ?_⟩
        cases eo
        obtain ⟨z, hz, q4⟩ := lift_fin q3
        exact ⟨ρ, S3, _, z, s3, (r1.nx0 (n2.trans n3)).vw s3, hz, q4⟩
  · cases h
end
end EK

set_option Elab.async false
set_option linter.all false
set_option maxRecDepth 100000
set_option maxHeartbeats 4000000
namespace EK
open PySem L2 PySem.Spec PyProof.Rows
section
variable {X : Cx} {C : Ct} {Φ : Str → Option Fsem} {G : Str → Option D} {W : WX} {e : Expr} {f : Gam → Sto → R} {t : TE}
def rRev (C : Ct) : V → Hp → VK → Prop := fun x H Q => ∃ ρ S d z, StOk C H ρ S ∧ VwR C H ρ x d ∧ revD d = some z ∧ ∀ v H', Nx H ρ H' ρ → StOk C H' ρ S → RepD C H' ρ v z → Q v H'
theorem str_rev (w : List Nat) : (Builtin.Str.strSliceIndices none none (-1) w.length).filterMap ((⟨w.toArray⟩ : Str).cps[·]?) = w.reverse := by
  have e : Builtin.Str.strSliceIndices none none (-1) w.length = (List.range w.length).map fun k => w.length - 1 - k := by
    unfold Builtin.Str.strSliceIndices
    show sliceRange ((w.length : Int) - 1) (-1) (-1) = _
    exact PySem.W.krv_sliceRange w.length
  rw [e, PySem.W.krv_range, List.filterMap_reverse]
  have h := PySem.W.krv_all w.toArray
  rw [List.size_toArray] at h
  rw [h]
theorem pe_rev {te : TE} {k : Nat} {p1 p2 p3 pos : Pos} (hK : X.K = C.K) (he : PE X e te) : PE X (.Subscript e (.Slice none none (some (.UnaryOp .USub (.Constant (.int 1) k p1) p2)) p3) pos) (fun σ H Q => te σ H fun x H1 => rRev C x H1 Q) := by
  refine ⟨fun pins s σ H Q I h => ?_⟩
  refine Subscript_ (thn (he.run pins s σ H _ I h) fun v s1 ⟨x, H1, I1, r1, q1⟩ => ?_)
  obtain ⟨ρ, S, d, z, st, hx, hg, q⟩ := q1
  have hst : PO X (some (.UnaryOp .USub (.Constant (.int 1) k p1) p2)) (tPart (tUn (rU fun i => .int (-i)) (tC (.int 1)))) := po_some (pe_un un_neg pe_int)
  refine wpAny_Slice (thn (po_none.run pins s1 σ H1 (fun o H2 => o = none ∧ H2 = H1) I1 ⟨rfl, rfl⟩) fun vl s2 ⟨l, H2, I2, pl, el, e2⟩ => ?_)
  subst el e2
  refine thn (po_none.run pins s2 σ H2 (fun o H3 => o = none ∧ H3 = H2) I2 ⟨rfl, rfl⟩) fun vu s3 ⟨u, H3, I3, pu, eu, e3⟩ => ?_
  subst eu e3
  refine thn (hst.run pins s3 σ H3 (fun o H4 => o = some (-1) ∧ H4 = H3) I3 ⟨1, rfl, -1, rfl, rfl, rfl⟩) fun vs s4 ⟨o, H4, I4, ps, eo, e4⟩ => ?_
  subst eo e4
  have I5 : L2.Inv X pins σ H4 { s4 with heap := s4.heap.push { cls := .type "slice", data := .fields #[vl, vu, vs] } } := I4.kept (t' := s4.toks) fun b ob q => Heap.get?_push_of_some _ q
  unfold revD at hg
  split at hg
  · cases hg
    obtain ⟨a, xs, rfl, ha, ra⟩ := hx.lst
    cases r1
    obtain ⟨its, r, ht, hz⟩ := I5.list (a := a) (xs := xs) (.inl (.inl ha))
    have hlen := r.length
    show wpAny (model X.prog X.w) X.A (subscriptTail e (.Slice none none (some (.UnaryOp .USub (.Constant (.int 1) k p1) p2)) p3) (.ref a) (.ref s4.heap.objs.size)) (EP X pins σ Q) X.xe _
    refine tail_any (ops := [.ref a, .ref s4.heap.objs.size]) ht.isList.typeIs (PySem.slot_list_getitem.lookup) ?_ (by with_unfolding_all rfl)
    refine wpAny_getItem_list_slice ht.isList (Heap.IsSliceOf.new _ vl vu vs) pl pu ps (by decide) ?_ (by rw [List.size_toArray]; omega)
    rw [PySem.W.krv_pick]
    refine ⟨.ref _, _, I5.laid (t' := s4.toks) (o := .lst xs.reverse) (fun b ob q => Heap.get?_push_of_some _ q) (Nat.le_refl _) ?_, rfl, finL st q ra.reverse (I5.hok.fresh (Nat.le_refl _))⟩
    exact ⟨by rw [List.length_reverse]; exact hz, _, 0, r.reverse, Heap.get?_push_size _ rfl⟩
  · split at hg
    · rename_i w hl
      cases hg
      obtain rfl := hx.str
      obtain ⟨t, rfl⟩ := r1
      show wpAny (model X.prog X.w) X.A (subscriptTail e (.Slice none none (some (.UnaryOp .USub (.Constant (.int 1) k p1) p2)) p3) (.str ⟨w.toArray⟩ t) (.ref s4.heap.objs.size)) (EP X pins σ Q) X.xe _
      refine tail_any (ops := [.str ⟨w.toArray⟩ t, .ref s4.heap.objs.size]) (typeIs_str _ _ _) F.slot_str_getitem.lookup ?_ (by with_unfolding_all rfl)
      obtain ⟨l, rfl, el⟩ := IsPart.raw pl
      obtain ⟨u, rfl, eu⟩ := IsPart.raw pu
      obtain ⟨s, rfl, es⟩ := IsPart.raw ps
      refine wpAny_getItem_str_slice (l := l) (u := u) (st := s) ⟨_, Heap.get?_push_size _ rfl, rfl, rfl⟩ (by rw [es]; decide) ?_
      unfold sliceMade slicePicked
      rw [el, eu, es]
      show Made.post (if ((-1 : Int) == 1 && _) = true then _ else Made.str ⟨((Builtin.Str.strSliceIndices none none (-1) (⟨w.toArray⟩ : Str).length).filterMap ((⟨w.toArray⟩ : Str).cps[·]?)).toArray⟩) (EP X pins σ Q) _
      rw [if_neg (by intro z; cases z), str_len, str_rev]
      refine ⟨?_, .str ⟨w.reverse.toArray⟩, H4, I5.tok _, ⟨_, rfl⟩, fin0 st q (.str _)⟩
      rw [str_len, List.length_reverse, szL_eq]; exact hl
    · cases hg
  · cases hg
    obtain ⟨a, xs, rfl, ha, ra⟩ := hx.tup
    cases r1
    obtain ⟨its, r, ht, hz⟩ := I5.tuple (a := a) (xs := xs) (by rw [hK]; exact ha.sq)
    have hlen := r.length
    cases pl
    cases pu
    cases ps with
    | int _ t0 =>
      show wpAny (model X.prog X.w) X.A (subscriptTail e (.Slice none none (some (.UnaryOp .USub (.Constant (.int 1) k p1) p2)) p3) (.ref a) (.ref s4.heap.objs.size)) (EP X pins σ Q) X.xe _
      refine tail_any (ops := [.ref a, .ref s4.heap.objs.size]) ht.typeIs (PyProof.Rows.slot_tuple_getitem.lookup) ?_ (by with_unfolding_all rfl)
      refine item_rev ht (Heap.IsSliceOf.new _ .none .none (.int (-1) t0)) (by rw [List.size_toArray]; omega) ?_
      refine ⟨.ref _, _, I5.laid (t' := s4.toks) (o := .tup xs.reverse) (fun b ob q => Heap.get?_push_of_some _ q) (Nat.le_refl _) ?_, rfl, finT st q ra.reverse (I5.hok.fresh (Nat.le_refl _))⟩
      exact ⟨by rw [List.length_reverse]; exact hz, _, by simpa using r.reverse, ⟨_, Heap.get?_push_size _ rfl, rfl, _, rfl⟩⟩
  · cases hg
theorem g_rev (a : At X C Φ G W) {c1 : CE} (h : chk X.N X.env.scope (.rev c1) e = true) (i1 : ∀ e, chk X.N X.env.scope c1 e = true → Good X C W e (ev Φ G c1)) : Good X C W e (ev Φ G (.rev c1)) := by
  rw [chk.eq_def] at h
  dsimp only at h
  split at h
  · rename_i x k p1 p2 p3 p4
    refine good_plain ((pe_rev a.hK (i1 x h).1).mono fun σ H Q q => ?_) rfl
    obtain ⟨ρ, Γ, S, st, rg, q⟩ := q
    rw [ev] at q
    refine tDE_bind st rg q fun d S1 x H1 n1 s1 r1 rg1 q1 => ?_
    obtain ⟨z, hz, q2⟩ := lift_fin q1
    exact ⟨ρ, S1, _, z, s1, r1.vw s1, hz, q2⟩
  · cases h
theorem RepD.ty {H : Hp} {ρ : Rg} {v : V} {d : D} {t : String} (hK : X.K = C.K) (h : RepD C H ρ v d) (e : typD d = some t) : TyX X.K H v (.type t) := by
  cases h with
  | non => cases e; exact .base .non
  | bl b => cases e; exact .base (.bl b)
  | int i => cases e; exact .base (.int i)
  | str s => cases e; exact .base (.str _)
  | tup h r =>
    cases e
    rcases h with ⟨h | ⟨o, h⟩, _⟩ | ⟨o, its, n, h1, h2, _⟩
    · exact .base (.tup h)
    · exact .fTuple h
    · exact .kTuple (by rw [hK]; exact h1) h2
  | lst h r => cases e; exact .base (.lst h.1)
  | dic h _ _ _ => cases e; exact .base (.dK h)
  | fn h => cases e
  | frz h _ => cases e
theorem ty_boot {T : String} (h : T ∈ ["str", "int", "bool", "tuple", "list"]) : bootBuiltins (T : Str) = some (.type T) ∧ (T : Str) ∈ bltNames ∧ (T : Str) ≠ "__name__" ∧ ((T : Str) == ("__debug__" : Str)) = false := by
  simp only [List.mem_cons, List.not_mem_nil, or_false] at h
  rcases h with rfl | rfl | rfl | rfl | rfl
  · exact ⟨boot_str, by decide, by decide, by decide⟩
  · exact ⟨boot_int, by decide, by decide, by decide⟩
  · exact ⟨boot_bool, by decide, by decide, by decide⟩
  · exact ⟨boot_tuple, by decide, by decide, by decide⟩
  · exact ⟨boot_list, by decide, by decide, by decide⟩
theorem g_isi (a : At X C Φ G W) {c1 : CE} {T : String} (h : chk X.N X.env.scope (.isi c1 T) e = true) (i1 : ∀ e, chk X.N X.env.scope c1 e = true → Good X C W e (ev Φ G c1)) : Good X C W e (ev Φ G (.isi c1 T)) := by
  rw [chk.eq_def] at h
  dsimp only at h
  split at h
  · rename_i x p y t p2 p3
    obtain ⟨h, h7⟩ := and2 h
    obtain ⟨h, h6⟩ := and2 h
    obtain ⟨h, h5⟩ := and2 h
    obtain ⟨h, h4⟩ := and2 h
    obtain ⟨h, h3⟩ := and2 h
    obtain ⟨h1, h2⟩ := and2 h
    rw [decide_eq_true_iff] at h1 h3 h5
    subst h1 h3
    obtain ⟨b1, b2, b3, b4⟩ := ty_boot h5
    obtain ⟨g1, _, _⟩ := gl_of h2
    obtain ⟨g2, _, _⟩ := gl_of h4
    have ht : PE X (.Name (T : Str) p2) (tC (.ty T)) := pe_bltn g2 (a.blt _ b2) b1 rfl b3 b4
    refine good_plain ((pe_callB call_isi g1 (a.blt _ (by decide)) boot_isinstance (pa_cons (i1 y h7).1 (pa_cons ht pa_nil) (star_of h6)) (by decide) (by decide) (star_of h6) rfl).mono fun σ H Q q => ?_) rfl
    obtain ⟨ρ, Γ, S, st, rg, q⟩ := q
    rw [ev] at q
    refine tDE_bind st rg q fun d S1 x H1 n1 s1 r1 rg1 q1 => ?_
    obtain ⟨z, hz, q2⟩ := lift_fin q1
    unfold isiD at hz
    cases ht1 : typD d with
    | none => rw [ht1] at hz; cases hz
    | some t =>
      rw [ht1] at hz
      simp only [Option.bind_some, Option.map_eq_some_iff] at hz
      obtain ⟨k, hk, rfl⟩ := hz
      have rd : RepD C H1 ρ x d := r1.d (by cases d <;> first | rfl | cases ht1)
      exact ⟨x, .ty T, .type t, .type T, k, rfl, .ty T, rd.ty a.hK ht1, kit_ty hk, q2 _ H1 (Nx.refl _ _) s1 (.bl _)⟩
  · cases h
end
end EK

set_option Elab.async false
set_option linter.all false
set_option maxRecDepth 100000
set_option maxHeartbeats 4000000
namespace L2
open PySem PySem.Spec
theorem HOk.adopt {P : Program} {w : World} {H : Hp} {h : Heap} {a : Addr} {o : HO} (x : HOk P w H h) (hn : H a = none) (new : ObjOk P w (upd H a o) h a o) : HOk P w (upd H a o) h := fun b u e => by
  by_cases hb : b = a
  · subst hb; rw [upd_same] at e; cases e; exact new
  · rw [upd_ne hb] at e
    exact (x b u e).stay (fun c v _ q => q) (fun c q => by rw [upd_ne (ne_of_none q hn)]; exact q) fun c xs q => by rw [upd_ne (ne_of_none q hn)]; exact q
/-- a pinned object of the heap is tracked from now on -/
theorem Inv.adopt {X : Cx} {pins : List (Addr × Obj)} {σ : St} {H : Hp} {s : Shared} {p : Addr} {ob : Obj} {o : HO} (I : Inv X (pins ++ [(p, ob)]) σ H s) (hy : X.s_0.heap.objs.size ≤ p) (hpn : ∀ q ∈ X.pn ++ pins, q.1 ≠ p) (hl : p ≠ X.env.locals)
    (hc : ∀ x c, X.env.cells.lookup x = some c → c ≠ p) (new : ObjOk X.prog X.w (upd H p o) s.heap p o) : Inv X pins σ (upd H p o) s := by
  have hp := I.pin (p, ob) (List.mem_append_right _ (List.mem_append_right _ (List.mem_singleton.mpr rfl)))
  have hn : H p = none := hp.2.1
  refine I.unpinned.call' (ch := [p]) rfl ⟨fun b u e _ _ _ => e, fun b u e _ _ _ => ⟨u.slots, by cases u; exact e⟩, fun b u e n hb => ?_, fun b u e _ => ⟨u, e⟩, fun b xs e => ?_, fun b u w e => ?_, fun b ps e => ?_⟩ (I.hok.adopt hn new) I.bare fun b hb => ?_
  · rw [upd_ne (fun z => hb (List.mem_singleton.mpr z))]; exact n
  · rw [upd_ne (ne_of_none e hn)]; exact e
  · rw [upd_ne (ne_of_none e hn)]; exact e
  · exact ⟨#[], by rw [upd_ne (ne_of_none e hn)]; simpa using e⟩
  · rw [List.mem_singleton.mp hb]
    exact ⟨.inr hy, hl, hc, hpn⟩
/-- {k: v, ..}: the dict is seen when its pairs are made -/
def tDispP (trs : List (TE × TE)) : TE := fun σ H Q => tPairs trs σ H fun ps H2 => ∃ kvs : List (Key × V), ps = kvs.map (fun kv => (kV kv.1, kv.2)) ∧ kvs.length ≤ 15 ∧ ∀ p, H2 p = none → Q (.ref p) (upd H2 p (.dK (mergeK [] kvs)))
theorem pe_dispP {X : Cx} {pos : Pos} {keys : List (Option Expr)} {values : List Expr} {trs : List (TE × TE)} (h : PPs X pos keys values trs) (hall : keys.all (·.isSome) = true) (hl : keys.length = values.length) (h0 : keys ≠ [])
    (h15 : keys.length ≤ 15) : PE X (.Dict keys values pos) (tDispP trs) := by
  refine ⟨fun pins s σ H Q I q => ?_⟩
  have hn := I.hok.fresh (Nat.le_refl s.heap.objs.size)
  have I0 : Inv X pins σ H { s with heap := s.heap.push { cls := .type "dict", data := .dict #[] } } := I.kept (t' := s.toks) fun b ob q => Heap.get?_push_of_some _ q
  have fo : FpOk X pins H s.heap.objs.size := I.fpOk (Nat.le_refl _) hn
  have I1 : Inv X (pins ++ [(s.heap.objs.size, { cls := .type "dict", data := .dict #[] })]) σ H { s with heap := s.heap.push { cls := .type "dict", data := .dict #[] } } := I0.pins_of fun p hp => by
    rcases List.mem_append.mp hp with hp | hp
    · exact I0.pin p (List.mem_append_right _ hp)
    · rw [List.mem_singleton.mp hp]
      exact ⟨Heap.get?_push_size _ rfl, hn, fo.2.1, fo.2.2.1, fun v z => by cases z⟩
  refine wpAny_Dict_walk (knd := mixKind X.prog X.w) hall hl h0 h15 (thn (h.run _ _ σ _ _ I1 q) fun ws s2 ⟨ps, H2, I2, rel, kvs, ep, lk, q2⟩ => ?_)
  subst ep
  obtain ⟨rs, c, rk⟩ := carries_of (P := X.prog) (w := X.w) rel
  have hp2 := I2.pin (s.heap.objs.size, { cls := .type "dict", data := .dict #[] }) (List.mem_append_right _ (List.mem_append_right _ (List.mem_singleton.mpr rfl)))
  have dd : s2.heap.DictOf (mixKind X.prog X.w) s.heap.objs.size [] := ⟨_, #[], 0, hp2.1, ⟨rfl, rfl, rfl⟩, rfl, fun _ he => by simp at he, Pairs.nil, List.nodup_nil⟩
  have hd : (s.heap.objs.size == sysModules) = false := beq_eq_false_iff_ne.mpr (Ne.symm (Nat.ne_of_lt I.big))
  have J : Inv X pins σ (upd H2 s.heap.objs.size (.dK [])) s2 := I2.adopt I.sz (fun p hp z => fo.2.2.2.2.2 p hp z) fo.2.1 fo.2.2.2.2.1 ⟨Nat.zero_le _, hd, [], .nil, dd⟩
  refine ⟨rs, c, dd, fun h' dd' hs => ⟨.ref s.heap.objs.size, upd H2 s.heap.objs.size (.dK (mergeK [] kvs)), ?_, rfl, q2 _ hp2.2.1⟩⟩
  have hz : (mergeK [] kvs).length ≤ sizeLine := by
    have h1 := length_mergeK kvs []
    rw [List.length_nil] at h1
    rw [sizeLine_eq]; omega
  have he : ∃ q, h'.get? s.heap.objs.size = some q := let ⟨q, _, _, hq, _⟩ := dd'; ⟨q, hq⟩
  have F := d_write (t' := s2.toks + ws.length) J (by rw [upd_same]; exact True.intro) hs he (dk_new hz hd (rk.merge .nil) dd')
  rw [upd_upd] at F
  exact F
end L2

namespace EK
open PySem L2 PySem.Spec PyProof.Rows
section
variable {X : Cx} {C : Ct} {Φ : Str → Option Fsem} {G : Str → Option D} {W : WX} {e : Expr} {f : Gam → Sto → R} {t : TE}
/-! ### methods -/
theorem join_eq' (s : List Nat) (ys : List (List Nat)) : Txt.join (mkS s) (ys.map mkS) = mkS (TL.joinL s ys) := by
  apply PySem.W.str_of_cps
  have h := TL.tl_join (mkS s) (ys.map mkS)
  rw [TL.join_eq]
  have e : (ys.map mkS).map TL.tl = ys := by
    rw [List.map_map]
    conv => rhs; rw [← List.map_id ys]
    apply List.map_congr_left
    intro y _
    rfl
  rw [e] at h
  exact h
theorem mt_joinP (hK : X.K = C.K) : MtR X "str.join" (fun x xs H Q => ∃ y, xs = [y] ∧ rP2 C joinD x y H Q) := by
  intro pins s σ H x xs v us Q I rx rs h
  obtain ⟨y, rfl, ρ, S, d, e, z, st, hx, hy, hg, q⟩ := h
  unfold joinD at hg
  split at hg
  · rename_i s0 xs0
    split at hg
    · rename_i ys e1
      split at hg
      · rename_i hl
        cases hg
        obtain rfl := hx.str
        obtain ⟨a, vs, rfl, ha, ra⟩ := hy.lst
        have ev := ra.strs e1
        subst ev
        refine mt_join pins s σ H _ _ v us Q I rx rs ⟨mkS s0, a, ys.map mkS, rfl, rfl, .inl (.inl (.inl ha)), ?_, ?_⟩
        · have e : (ys.map mkS).map (·.length) = ys.map (·.length) := by
            rw [List.map_map]
            apply List.map_congr_left
            intro y _
            exact str_len y
          rw [e, List.length_map, str_len]; exact hl
        · rw [join_eq']; exact fin0 st q (.str _)
      · cases hg
    · cases hg
  · cases hg
theorem RepA.idx {H : Hp} {ρ : Rg} {w : V} {e : D} (h' : RepD C H ρ w e) (he : flatD e = true) : ∀ {vs : List V} {ds : List D} {j : Nat}, RepA C H ρ vs ds → ds.all flatD = true → ds.findIdx? (fun x => eqFl x e) = some j →
    ∃ z, vs[j]? = some z ∧ eqV z w = true ∧ ∀ (m : Nat) (z' : V), m < j → vs[m]? = some z' → eqV z' w = false
  | _, _, _, .nil, _, h => by simp at h
  | _, _, j, .cons (v := v) (d := d) (ds := ds) r1 r2, a, h => by
    rw [List.all_cons, Bool.and_eq_true] at a
    rw [List.findIdx?_cons] at h
    have e1 := r1.eqFl a.1 h' he
    by_cases hd : eqFl d e = true
    · rw [if_pos hd] at h
      cases h
      exact ⟨v, rfl, e1.trans hd, fun m z' hm => absurd hm (Nat.not_lt_zero _)⟩
    · rw [if_neg hd] at h
      cases h2 : ds.findIdx? (fun x => eqFl x e) with
      | none => rw [h2] at h; cases h
      | some k =>
        rw [h2] at h
        cases h
        obtain ⟨z, h3, h4, h5⟩ := RepA.idx h' he r2 a.2 h2
        refine ⟨z, by simpa using h3, h4, fun m z' hm hz => ?_⟩
        cases m with
        | zero =>
          have : v = z' := by simpa using hz
          subst this
          rw [e1]; simpa using hd
        | succ m => exact h5 m z' (by have hm : m + 1 < k + 1 := hm; omega) (by simpa using hz)
theorem mt_indexP (hK : X.K = C.K) : MtR X "list.index" (fun x xs H Q => ∃ y, xs = [y] ∧ rP2 C indexD x y H Q) := by
  intro pins s σ H x xs v us Q I rx rs h
  obtain ⟨y, rfl, ρ, S, d, e, z, st, hx, hy, hg, q⟩ := h
  unfold indexD at hg
  split at hg
  · split at hg
    · rename_i hf
      rw [Option.map_eq_some_iff] at hg
      obtain ⟨j, hj, rfl⟩ := hg
      obtain ⟨a, vs, rfl, ha, ra⟩ := hx.lst
      have hd := hy.flatD hf.1
      obtain ⟨z, h1, h2, h3⟩ := RepA.idx hd hf.1 ra hf.2 hj
      exact mt_index pins s σ H _ _ v us Q I rx rs ⟨a, vs, y, j, z, rfl, rfl, .inl (.inl ha), hd.flat hf.1, ra.flat hf.2, h1, h2, h3, fin0 st q (.int _)⟩
    · cases hg
  · cases hg
theorem few_of {y : Expr} {env : Env} {cp : Pos} (h : plainB y = true) : ((backTo cp (starEach [y] env)).all (fun x => !x.1) && (backToKw cp (keywordEach [] env)).all (fun x => x.1.isSome) && decide (([y] : List Expr).length + ([] : List Keyword).length + (if ([] : List Keyword).isEmpty then 0 else 1) < 30)) = true := by
  rw [star_of h]; rfl
theorem cnt_eq (c : Nat) : ∀ l : List Nat, PyProof.Rows.cnt c l = ((l.count c : Nat) : Int)
  | [] => rfl
  | x :: l => by
    rw [List.count_cons, PyProof.Rows.cnt_cons, cnt_eq c l]
    by_cases h : x = c
    · simp [h]; omega
    · simp [h]
theorem mt_countP (hK : X.K = C.K) : MtR X "str.count" (fun x xs H Q => ∃ y, xs = [y] ∧ rP2 C countD x y H Q) := by
  intro pins s σ H x xs v us Q I rx rs h
  obtain ⟨y, rfl, ρ, S, d, e, z, st, hx, hy, hg, q⟩ := h
  unfold countD at hg
  split at hg
  · rename_i w c
    cases hg
    obtain rfl := hx.str
    obtain rfl := hy.str
    refine mt_count pins s σ H _ _ v us Q I rx rs ⟨_, _, rfl, rfl, ?_⟩
    have e : Txt.count ⟨w.toArray⟩ ⟨#[c]⟩ = ((w.count c : Nat) : Int) := by
      rw [count_cnt, cnt_eq]
    rw [e]
    exact fin0 st q (.int _)
  · cases hg
theorem g_mth (a : At X C Φ G W) {m : Mf} {c1 c2 : CE} (h : chk X.N X.env.scope (.mth m c1 c2) e = true) (i1 : ∀ e, chk X.N X.env.scope c1 e = true → Good X C W e (ev Φ G c1)) (i2 : ∀ e, chk X.N X.env.scope c2 e = true → Good X C W e (ev Φ G c2)) :
    Good X C W e (ev Φ G (.mth m c1 c2)) := by
  rw [chk.eq_def] at h
  dsimp only at h
  split at h
  · rename_i x n ap y cp
    obtain ⟨h, h6⟩ := and2 h
    obtain ⟨h, h5⟩ := and2 h
    obtain ⟨h, h4⟩ := and2 h
    obtain ⟨h, h3⟩ := and2 h
    obtain ⟨h1, h2⟩ := and2 h
    cases m with
    | join =>
      dsimp only at h1
      rw [decide_eq_true_iff] at h1
      subst h1
      refine good_plain ((pe_m1 F.slot_str_join F.type_str_join (mt_joinP (C := C) a.hK) (i1 x h5).1 (i2 y h6).1 (star_of h3) (base_of h2) h4).mono fun σ H Q q => ?_) rfl
      obtain ⟨ρ, Γ, S, st, rg, q⟩ := q
      rw [ev] at q
      refine tDE_bind st rg q fun d S1 x H1 n1 s1 r1 rg1 q1 => ?_
      split at q1
      · rename_i hr
        refine ⟨?_, ?_⟩
        · cases hd : vw S1 d with
          | str w => have := r1.vw s1; rw [hd] at this; exact ⟨_, this.str⟩
          | _ => rw [hd] at hr; cases hr
        · refine tDE_bind s1 rg1 q1 fun e S2 y H2 n2 s2 r2 rg2 q2 => ?_
          obtain ⟨z, hz, q3⟩ := lift_fin q2
          exact ⟨y, rfl, ρ, S2, _, _, z, s2, (r1.nx0 n2).vw s2, r2.vw s2, hz, q3⟩
      · exact q1.elim
    | count =>
      dsimp only at h1
      rw [decide_eq_true_iff] at h1
      subst h1
      refine good_plain ((pe_m1 F.slot_str_count F.type_str_count (mt_countP (C := C) a.hK) (i1 x h5).1 (i2 y h6).1 (star_of h3) (base_of h2) h4).mono fun σ H Q q => ?_) rfl
      obtain ⟨ρ, Γ, S, st, rg, q⟩ := q
      rw [ev] at q
      refine tDE_bind st rg q fun d S1 x H1 n1 s1 r1 rg1 q1 => ?_
      split at q1
      · rename_i hr
        refine ⟨?_, ?_⟩
        · cases hd : vw S1 d with
          | str w => have := r1.vw s1; rw [hd] at this; exact ⟨_, this.str⟩
          | _ => rw [hd] at hr; cases hr
        · refine tDE_bind s1 rg1 q1 fun e S2 y H2 n2 s2 r2 rg2 q2 => ?_
          obtain ⟨z, hz, q3⟩ := lift_fin q2
          exact ⟨y, rfl, ρ, S2, _, _, z, s2, (r1.nx0 n2).vw s2, r2.vw s2, hz, q3⟩
      · exact q1.elim
    | index =>
      dsimp only at h1
      rw [decide_eq_true_iff] at h1
      subst h1
      refine good_plain ((pe_bm F.plainAttrs_list F.slot_list_index F.type_list_index (mt_indexP (C := C) a.hK) (i1 x h5).1 (pa_cons (i2 y h6).1 pa_nil (star_of h3)) (base_of h2) (few_of h3) h4 (star_of h3) rfl).mono fun σ H Q q => ?_) rfl
      obtain ⟨ρ, Γ, S, st, rg, q⟩ := q
      rw [ev] at q
      refine tDE_bind st rg q fun d S1 x H1 n1 s1 r1 rg1 q1 => ?_
      split at q1
      · rename_i hr
        refine ⟨?_, ?_⟩
        · cases hd : vw S1 d with
          | lst w =>
            have := r1.vw s1; rw [hd] at this
            obtain ⟨b, xs, rfl, hb, _⟩ := this.lst
            exact .inl ⟨rfl, xs, .inl (.inl hb)⟩
          | _ => rw [hd] at hr; cases hr
        · refine tDE_bind s1 rg1 q1 fun e S2 y H2 n2 s2 r2 rg2 q2 => ?_
          obtain ⟨z, hz, q3⟩ := lift_fin q2
          exact ⟨y, rfl, ρ, S2, _, _, z, s2, (r1.nx0 n2).vw s2, r2.vw s2, hz, q3⟩
      · exact q1.elim
  · cases h
theorem getK0 : ∀ {kvs : List (Key × V)} {es : List (Key × D)} {k : Key}, kvs.map (·.1) = es.map (·.1) → getK es k = none → valV kvs k = none := by
  intro kvs es k e h
  have : ∀ (es : List (Key × D)) (kvs : List (Key × V)), kvs.map (·.1) = es.map (·.1) → getK es k = none → valV kvs k = none := by
    intro es
    induction es with
    | nil => intro kvs e h; cases kvs with | nil => rfl | cons _ _ => cases e
    | cons q es ih =>
      intro kvs e h
      cases kvs with
      | nil => cases e
      | cons p kvs =>
        have e1 : p.1 = q.1 := (List.cons.inj e).1
        unfold getK at h
        unfold valV
        rw [List.find?_cons] at h ⊢
        rw [e1]
        by_cases hk : q.1 = k
        · rw [decide_eq_true hk] at h; cases h
        · rw [decide_eq_false hk] at h ⊢
          exact ih kvs (List.cons.inj e).2 h
  exact this es kvs e h
theorem g_dget (a : At X C Φ G W) {c1 c2 c3 : CE} (h : chk X.N X.env.scope (.dget c1 c2 c3) e = true) (i1 : ∀ e, chk X.N X.env.scope c1 e = true → Good X C W e (ev Φ G c1)) (i2 : ∀ e, chk X.N X.env.scope c2 e = true → Good X C W e (ev Φ G c2))
    (i3 : ∀ e, chk X.N X.env.scope c3 e = true → Good X C W e (ev Φ G c3)) : Good X C W e (ev Φ G (.dget c1 c2 c3)) := by
  rw [chk.eq_def] at h
  dsimp only at h
  split at h
  · rename_i x n ap y z cp
    obtain ⟨h, h8⟩ := and2 h
    obtain ⟨h, h7⟩ := and2 h
    obtain ⟨h, h6⟩ := and2 h
    obtain ⟨h, h5⟩ := and2 h
    obtain ⟨h, h4⟩ := and2 h
    obtain ⟨h, h3⟩ := and2 h
    obtain ⟨h1, h2⟩ := and2 h
    rw [decide_eq_true_iff] at h1
    subst h1
    have hm : M2 X x "get" ap y z cp := ⟨base_of h2, by rw [star_of h3, star_of h4]; rfl, h5, by rw [star_of h3, star_of h4]; rfl⟩
    refine good_plain ((pe_dget2 (by have := a.units; omega) (i1 x h6).1 (i2 y h7).1 (i3 z h8).1 hm).mono fun σ H Q q => ?_) rfl
    obtain ⟨ρ, Γ, S, st, rg, q⟩ := q
    rw [ev] at q
    refine tDE_bind st rg q fun d S1 x H1 n1 s1 r1 rg1 q1 => ?_
    split at q1
    · rename_i hr
      have hv := r1.vw s1
      cases hd : vw S1 d with
      | dic es =>
        rw [hd] at hv
        obtain ⟨b, kvs, rfl, hb, _, _⟩ := hv.dic
        refine ⟨b, rfl, .inl ⟨kvs, .inl hb⟩, ?_⟩
        refine tDE_bind s1 rg1 q1 fun e S2 y H2 n2 s2 r2 rg2 q2 => ?_
        refine tDE_bind s2 rg2 q2 fun f S3 z H3 n3 s3 r3 rg3 q3 => ?_
        split at q3
        · rename_i hf
          obtain ⟨w, hw, q4⟩ := lift_fin q3
          have hv3 := (r1.nx0 (n2.trans n3)).vw s3
          cases ed : vw S3 d with
          | dic es' =>
            rw [ed] at hv3 hw
            have hw : (keyD (vw S3 e)).map (fun q => (getK es' q).getD f) = some w := hw
            obtain ⟨b', kvs', eb, hb', ek', ra⟩ := hv3.dic
            cases eb
            rw [Option.map_eq_some_iff] at hw
            obtain ⟨kk, hkk, rfl⟩ := hw
            have hy := (r2.nx0 n3).vw s3
            have ey := hy.key hkk
            cases hg : getK es' kk with
            | none =>
              refine ⟨none, .inl ⟨kvs', kk, .inl hb', ey, (getK0 ek' hg).symm⟩, ?_⟩
              rw [hg] at q4
              exact q4 _ H3 (Nx.refl _ _) s3 (r3.d hf)
            | some dd =>
              obtain ⟨vv, h1, h2⟩ := RepA.getK ek' ra hg
              refine ⟨some vv, .inl ⟨kvs', kk, .inl hb', ey, h1.symm⟩, ?_⟩
              rw [hg] at q4
              exact q4 _ H3 (Nx.refl _ _) s3 h2
          | _ => rw [ed] at hw; cases hw
        · exact q3.elim
      | _ => rw [hd] at hr; cases hr
    · exact q1.elim
  · cases h
end
end EK

set_option Elab.async false
set_option linter.all false
set_option maxRecDepth 100000
set_option maxHeartbeats 4000000
namespace EK
open PySem L2 PySem.Spec PyProof.Rows
section
variable {X : Cx} {C : Ct} {Φ : Str → Option Fsem} {G : Str → Option D} {W : WX} {e : Expr} {f : Gam → Sto → R} {t : TE}
/-! ### what is walked -/
/-- the iterator J goes over these items, from the heap H₀ on -/
def ItOk (C : Ct) (J : It) (H₀ : Hp) (ρ₀ : Rg) (items : List D) : Prop := ∃ (g : Hp → Prop) (y : Nat → Hp → V → Hp → Prop), L2.Walk J items.length g y ∧ (∀ H ρ, Nx H₀ ρ₀ H ρ → g H) ∧
  ∀ i H ρ v H', Nx H₀ ρ₀ H ρ → (∀ a, a ∈ ρ → H a ≠ none) → y i H v H' → (H' = H ∨ ∃ T o, H T = none ∧ H' = upd H T o) ∧ ∃ d, items[i]? = some d ∧ RepD C H' ρ v d
def FinI (C : Ct) (W : WX) (ρ : Rg) (σ : L2.St) (H : Hp) (R : It → Hp → Prop) (ik : Ik) : RA → Prop
  | .ok ds S' => ∃ items, itD ik ds = some items ∧ ∀ J H', Nx H ρ H' ρ → StOk C H' ρ S' → ItOk C J H' ρ items → R J H'
  | .ex c d S' => ∀ (Ca dd : Addr) (v : V) (H' : Hp), C.mg c = some (.ref Ca) → Nx H ρ H' ρ → StOk C H' ρ S' → H' dd = some (.xd [(C.fld c, v)]) → dd ∉ ρ → RepD C H' ρ v d → W (.ref Ca) (some dd) σ H'
  | .bad => False
def tDI (C : Ct) (W : WX) (f : Gam → Sto → RA) (ik : Ik) : TI := fun σ H R => ∃ ρ Γ S, StOk C H ρ S ∧ RepG C H ρ σ Γ ∧ FinI C W ρ σ H R ik (f Γ S)
theorem _root_.L2.PI.mono {tg it : Expr} {w w' : TI} (h : PI X tg it w) (i : ∀ σ H R, w' σ H R → w σ H R) : PI X tg it w' := ⟨fun pins s σ H R I q => h.run pins s σ H R I (i σ H R q)⟩
/-- a list, a tuple or a text -/
def iAny (K : PySem.W.Frag) (te : TE) : TI := fun σ H R => te σ H fun x H1 => (∃ a, x = .ref a ∧ (∃ xs, SqL K H1 a xs) ∧ R (Itl K a) H1) ∨ (∃ a, x = .ref a ∧ (∃ xs, SqT K H1 a xs) ∧ R (Itt K a) H1) ∨ ∃ z, x = .str z ∧ R (Its z) H1
theorem pi_any {tg l : Expr} {te : TE} (hl : PE X l te) : PI X tg l (iAny X.K te) := by
  constructor
  intro pins s σ H R I h
  apply thn (hl.run pins s σ H _ I h)
  rintro v s1 ⟨x, H1, J, r1, q1⟩
  rcases q1 with ⟨a, rfl, ⟨xs, hq⟩, q⟩ | ⟨a, rfl, ⟨xs, hq⟩, q⟩ | ⟨z, rfl, q⟩
  · cases r1
    obtain ⟨its, _, pl, _⟩ := J.list hq
    exact wpAny_pyIter_list pl.isList (pi_one (tk := s1.toks) J _ (turn_list a _) ⟨_, Heap.get?_push_size _ rfl, rfl, rfl⟩ q)
  · cases r1
    obtain ⟨its, _, pl, _⟩ := J.tuple hq
    exact wpAny_pyIter_tuple (show s1.heap.IsTuple a its.toArray from pl) (pi_one (tk := s1.toks) J _ (turn_tuple a _) ⟨_, Heap.get?_push_size _ rfl, rfl, rfl⟩ q)
  · obtain ⟨t, rfl⟩ := r1
    by_cases ha : z.cps.all (· < 128) = true
    · exact wpAny_pyIter_ascii ha (pi_one (tk := s1.toks) J _ (turn_str _ z t _ (.inl rfl)) ⟨_, Heap.get?_push_size _ rfl, rfl, rfl⟩ q)
    · exact wpAny_pyIter_wide (by simpa using ha) (pi_one (tk := s1.toks) J _ (turn_str _ z t _ (.inr rfl)) ⟨_, Heap.get?_push_size _ rfl, rfl, rfl⟩ q)
theorem it_list {H : Hp} {ρ : Rg} {a : Addr} {xs : List V} {ds : List D} (hs : ∀ H' ρ', Nx H ρ H' ρ' → SqL C.K H' a xs) (r : RepA C H ρ xs ds) : ItOk C (Itl C.K a) H ρ ds := by
  refine ⟨fun H => SqL C.K H a xs, YAt xs, by rw [← r.length]; exact walk_list, fun H' ρ' n => hs H' ρ' n, fun i H' ρ' v H2 n _ y => ?_⟩
  obtain ⟨rfl, hi⟩ := y
  obtain ⟨d, h1, h2⟩ := (r.nx n).get hi
  exact ⟨.inl rfl, d, h1, h2⟩
theorem it_tup {H : Hp} {ρ : Rg} {a : Addr} {xs : List V} {ds : List D} (h : TupAt C H ρ a xs) (r : RepA C H ρ xs ds) : ItOk C (Itt C.K a) H ρ ds := by
  refine ⟨fun H => SqT C.K H a xs, YAt xs, by rw [← r.length]; exact walk_tup, fun H' ρ' n => (h.nx n).sq, fun i H' ρ' v H2 n _ y => ?_⟩
  obtain ⟨rfl, hi⟩ := y
  obtain ⟨d, h1, h2⟩ := (r.nx n).get hi
  exact ⟨.inl rfl, d, h1, h2⟩
theorem it_str {H : Hp} {ρ : Rg} (s : List Nat) : ItOk C (Its (mkS s)) H ρ (s.map fun c => .str [c]) := by
  refine ⟨fun _ => True, fun i H v H' => H' = H ∧ ∃ c, (mkS s).cps[i]? = some c ∧ v = .str ⟨#[c]⟩, ?_, fun _ _ _ => trivial, fun i H' ρ' v H2 n _ y => ?_⟩
  · have h := walk_str (z := mkS s)
    have e : (mkS s).cps.size = (s.map fun c => D.str [c]).length := by simp
    rw [← e]; exact h
  · obtain ⟨rfl, c, hc, rfl⟩ := y
    refine ⟨.inl rfl, .str [c], ?_, .str [c]⟩
    have hc : s[i]? = some c := by simpa using hc
    rw [List.getElem?_map, hc]; rfl
theorem rng_get (lo : Int) (n i : Nat) (h : i < n) : (rngL lo n)[i]? = some (.int (lo + (i : Int))) := by
  unfold rngL
  rw [List.getElem?_map, List.getElem?_range h]; rfl
theorem it_rng {H : Hp} {ρ : Rg} (lo : Int) (n : Nat) : ItOk C (Itr lo n) H ρ (rngL lo n) := by
  refine ⟨fun _ => True, fun i H v H' => i < n ∧ YFn (fun i => .int (lo + i)) i H v H', ?_, fun _ _ _ => trivial, fun i H' ρ' v H2 _ _ y => ?_⟩
  · have e : (rngL lo n).length = n := by unfold rngL; simp
    rw [e]
    have w := walk_range (lo := lo) (n := n)
    exact ⟨w.goes, w.stops, fun i H x H' hi g y => ⟨hi, w.yields i H x H' hi g y⟩⟩
  · obtain ⟨hi, rfl, rfl⟩ := y
    exact ⟨.inl rfl, _, rng_get lo n i hi, .int _⟩
theorem it_rngS {H : Hp} {ρ : Rg} (lo c : Int) (n : Nat) : ItOk C (Itc lo c n) H ρ (rngS lo c n) := by
  refine ⟨fun _ => True, fun i H v H' => i < n ∧ YFn (fun i => .int (lo + (i : Nat) * c)) i H v H', ?_, fun _ _ _ => trivial, fun i H' ρ' v H2 _ _ y => ?_⟩
  · have e : (rngS lo c n).length = n := by unfold rngS; simp
    rw [e]
    have w := walk_rangeC (lo := lo) (c := c) (n := n)
    exact ⟨w.goes, w.stops, fun i H x H' hi g y => ⟨hi, w.yields i H x H' hi g y⟩⟩
  · obtain ⟨hi, rfl, rfl⟩ := y
    refine ⟨.inl rfl, _, ?_, .int _⟩
    unfold rngS
    rw [List.getElem?_map, List.getElem?_range hi]; rfl
theorem pairs_len : ∀ xs ys : List D, (pairs xs ys).length = min xs.length ys.length
  | [], _ => by simp [pairs]
  | _ :: _, [] => by simp [pairs]
  | x :: xs, y :: ys => by rw [pairs, List.length_cons, pairs_len xs ys, List.length_cons, List.length_cons]; omega
theorem pairs_get : ∀ {xs ys : List D} {i : Nat} {x y : D}, xs[i]? = some x → ys[i]? = some y → (pairs xs ys)[i]? = some (.tup [x, y])
  | [], _, _, _, _, h, _ => by simp at h
  | _ :: _, [], _, _, _, _, h => by simp at h
  | a :: xs, b :: ys, 0, x, y, h1, h2 => by simp at h1 h2; subst h1 h2; rfl
  | a :: xs, b :: ys, i + 1, x, y, h1, h2 => by rw [pairs, List.getElem?_cons_succ]; exact pairs_get (by simpa using h1) (by simpa using h2)
theorem new_pair {H : Hp} {ρ : Rg} {T : Addr} {x y : V} {d e : D} (hT : H T = none) (hρ : ∀ a, a ∈ ρ → H a ≠ none) (r1 : RepD C H ρ x d) (r2 : RepD C H ρ y e) : RepD C (upd H T (.tup [x, y])) ρ (.ref T) (.tup [d, e]) :=
  .tup (.inl ⟨.inl upd_same, fun z => hρ T z hT⟩) (.cons (r1.nx (Nx.new hT)) (.cons (r2.nx (Nx.new hT)) .nil))
/-- such a thing stays as it is, and so do its items -/
def Stay (C : Ct) (H : Hp) (ρ : Rg) (k : Kd) (xs : List V) (ds : List D) : Prop := ∀ H' ρ', Nx H ρ H' ρ' → k.at_ C.K H' xs ∧ RepA C H' ρ' xs ds
theorem repA_signs {H : Hp} {ρ : Rg} : ∀ s : List Nat, RepA C H ρ (s.map fun c => V.str ⟨#[c]⟩) (s.map fun c => D.str [c])
  | [] => .nil
  | c :: s => .cons (.str [c]) (repA_signs s)
theorem seq_kd {H : Hp} {ρ : Rg} {v : V} {d : D} {ds : List D} (h : Rep C H ρ v d) (e : seqD d = some ds) : ∃ k xs, v = Kd.v k ∧ Stay C H ρ k xs ds := by
  rcases h with h | ⟨k, a, rfl, _, _⟩
  · cases h with
    | str s =>
      cases e
      refine ⟨.s (mkS s), _, rfl, fun H' ρ' n => ⟨rfl, ?_⟩⟩
      have : (mkS s).cps.toList = s := by simp
      rw [this]
      exact repA_signs s
    | tup h r => cases e; exact ⟨.t _, _, rfl, fun H' ρ' n => ⟨(h.nx n).sq, r.nx n⟩⟩
    | lst h r => cases e; exact ⟨.l _, _, rfl, fun H' ρ' n => ⟨(h.nx n).sq, r.nx n⟩⟩
    | frz h r => cases e; exact ⟨.l _, _, rfl, fun H' ρ' n => ⟨(FrzAt.nw n.w h).sq, r.nx n⟩⟩
    | _ => cases e
  · cases e
theorem stay_len {H : Hp} {ρ : Rg} {k : Kd} {xs : List V} {ds : List D} (h : Stay C H ρ k xs ds) : xs.length = ds.length := (h H ρ (Nx.refl _ _)).2.length
theorem it_z2 {H : Hp} {ρ : Rg} {k1 k2 : Kd} {xs ys : List V} {ds es : List D} (h1 : Stay C H ρ k1 xs ds) (h2 : Stay C H ρ k2 ys es) : ItOk C (Itz2 C.K k1 k2) H ρ (pairs ds es) := by
  refine ⟨fun H => k1.at_ C.K H xs ∧ k2.at_ C.K H ys, fun i H v H' => ∃ T x y, v = .ref T ∧ H T = none ∧ H' = upd H T (.tup [x, y]) ∧ xs[i]? = some x ∧ ys[i]? = some y, ⟨fun i H hi g => ⟨xs, ys, g.1, g.2, ?_⟩, fun H g => ⟨xs, ys, g.1, g.2, ?_⟩, fun i H v H' _ g y => ?_⟩, fun H' ρ' n => ⟨(h1 H' ρ' n).1, (h2 H' ρ' n).1⟩, fun i H' ρ' v H2 n hρ y => ?_⟩
  · rw [pairs_len] at hi; rw [stay_len h1, stay_len h2]; exact hi
  · rw [pairs_len, stay_len h1, stay_len h2]
  · obtain ⟨T, x, z, e1, e2, e3, e4, e5⟩ := y
    exact ⟨T, x, z, e1, e2, e3, e4 xs g.1, e5 ys g.2⟩
  · obtain ⟨T, x, z, rfl, hT, rfl, hx, hz⟩ := y
    obtain ⟨d, q1, q2⟩ := (h1 H' ρ' n).2.get hx
    obtain ⟨e, q3, q4⟩ := (h2 H' ρ' n).2.get hz
    exact ⟨.inr ⟨T, _, hT, rfl⟩, _, pairs_get q1 q3, new_pair hT hρ q2 q4⟩
theorem trips_len : ∀ xs ys zs : List D, (trips xs ys zs).length = min (min xs.length ys.length) zs.length
  | [], _, _ => by simp [trips]
  | _ :: _, [], _ => by simp [trips]
  | _ :: _, _ :: _, [] => by simp [trips]
  | x :: xs, y :: ys, z :: zs => by rw [trips, List.length_cons, List.length_cons, List.length_cons, List.length_cons, trips_len xs ys zs]; omega
theorem trips_get : ∀ {xs ys zs : List D} {i : Nat} {x y z : D}, xs[i]? = some x → ys[i]? = some y → zs[i]? = some z → (trips xs ys zs)[i]? = some (.tup [x, y, z])
  | [], _, _, _, _, _, _, h, _, _ => by simp at h
  | _ :: _, [], _, _, _, _, _, _, h, _ => by simp at h
  | _ :: _, _ :: _, [], _, _, _, _, _, _, h => by simp at h
  | a :: xs, b :: ys, c :: zs, 0, x, y, z, h1, h2, h3 => by simp at h1 h2 h3; subst h1 h2 h3; rfl
  | a :: xs, b :: ys, c :: zs, i + 1, x, y, z, h1, h2, h3 => by rw [trips, List.getElem?_cons_succ]; exact trips_get (by simpa using h1) (by simpa using h2) (by simpa using h3)
theorem it_z3 {H : Hp} {ρ : Rg} {k1 k2 k3 : Kd} {xs ys zs : List V} {ds es fs : List D} (h1 : Stay C H ρ k1 xs ds) (h2 : Stay C H ρ k2 ys es) (h3 : Stay C H ρ k3 zs fs) : ItOk C (Itz3 C.K k1 k2 k3) H ρ (trips ds es fs) := by
  refine ⟨fun H => k1.at_ C.K H xs ∧ k2.at_ C.K H ys ∧ k3.at_ C.K H zs, fun i H v H' => ∃ T x y z, v = .ref T ∧ H T = none ∧ H' = upd H T (.tup [x, y, z]) ∧ xs[i]? = some x ∧ ys[i]? = some y ∧ zs[i]? = some z, ⟨fun i H hi g => ⟨xs, ys, zs, g.1, g.2.1, g.2.2, ?_⟩, fun H g => ⟨xs, ys, zs, g.1, g.2.1, g.2.2, ?_⟩, fun i H v H' _ g y => ?_⟩, fun H' ρ' n => ⟨(h1 H' ρ' n).1, (h2 H' ρ' n).1, (h3 H' ρ' n).1⟩, fun i H' ρ' v H2 n hρ y => ?_⟩
  · rw [trips_len] at hi; rw [stay_len h1, stay_len h2, stay_len h3]; exact hi
  · rw [trips_len, stay_len h1, stay_len h2, stay_len h3]
  · obtain ⟨T, x, z, u, e1, e2, e3, e4, e5, e6⟩ := y
    exact ⟨T, x, z, u, e1, e2, e3, e4 xs g.1, e5 ys g.2.1, e6 zs g.2.2⟩
  · obtain ⟨T, x, z, u, rfl, hT, rfl, hx, hz, hu⟩ := y
    obtain ⟨d, q1, q2⟩ := (h1 H' ρ' n).2.get hx
    obtain ⟨e, q3, q4⟩ := (h2 H' ρ' n).2.get hz
    obtain ⟨f, q5, q6⟩ := (h3 H' ρ' n).2.get hu
    exact ⟨.inr ⟨T, _, hT, rfl⟩, _, trips_get q1 q3 q5, .tup (.inl ⟨.inl upd_same, fun z => hρ T z hT⟩) (.cons (q2.nx (Nx.new hT)) (.cons (q4.nx (Nx.new hT)) (.cons (q6.nx (Nx.new hT)) .nil)))⟩
theorem enum_len : ∀ (xs : List D) (n : Nat), (enumFrom n xs).length = xs.length
  | [], _ => rfl
  | x :: xs, n => by rw [enumFrom, List.length_cons, List.length_cons, enum_len xs]
theorem enum_get : ∀ {xs : List D} {n i : Nat} {x : D}, xs[i]? = some x → (enumFrom n xs)[i]? = some (.tup [.int ((n + i : Nat) : Int), x])
  | [], _, _, _, h => by simp at h
  | a :: xs, n, 0, x, h => by simp at h; subst h; rfl
  | a :: xs, n, i + 1, x, h => by
    rw [enumFrom, List.getElem?_cons_succ, enum_get (n := n + 1) (i := i) (by simpa using h)]
    have : n + 1 + i = n + (i + 1) := by omega
    rw [this]
theorem it_en {H : Hp} {ρ : Rg} {k : Kd} {xs : List V} {ds : List D} (h1 : Stay C H ρ k xs ds) : ItOk C (Iten C.K k) H ρ (enumFrom 0 ds) := by
  refine ⟨fun H => k.at_ C.K H xs, fun i H v H' => ∃ T x, v = .ref T ∧ H T = none ∧ H' = upd H T (.tup [.int (i : Nat), x]) ∧ xs[i]? = some x, ⟨fun i H hi g => ⟨xs, g, ?_⟩, fun H g => ⟨xs, g, ?_⟩, fun i H v H' _ g y => ?_⟩, fun H' ρ' n => (h1 H' ρ' n).1, fun i H' ρ' v H2 n hρ y => ?_⟩
  · rw [enum_len] at hi; rw [stay_len h1]; exact hi
  · rw [enum_len, stay_len h1]
  · obtain ⟨T, x, e1, e2, e3, e4⟩ := y
    exact ⟨T, x, e1, e2, e3, e4 xs g⟩
  · obtain ⟨T, x, rfl, hT, rfl, hx⟩ := y
    obtain ⟨d, q1, q2⟩ := (h1 H' ρ' n).2.get hx
    have := enum_get (n := 0) q1
    rw [Nat.zero_add] at this
    exact ⟨.inr ⟨T, _, hT, rfl⟩, _, this, new_pair hT hρ (.int _) q2⟩

theorem tDI_bind {f : Gam → Sto → RA} {ik : Ik} {σ : L2.St} {H : Hp} {R : It → Hp → Prop} {Q' : List V → Hp → Prop} (h : tDI C W f ik σ H R)
    (hk : ∀ (ρ : Rg) ds items S' vs H', itD ik ds = some items → StOk C H' ρ S' → Paired (Rep C H' ρ) vs ds → (∀ J, ItOk C J H' ρ items → R J H') → Q' vs H') : tDA C W f σ H Q' := by
  obtain ⟨ρ, Γ, S, st, rg, h⟩ := h
  refine ⟨ρ, Γ, S, st, rg, ?_⟩
  cases e : f Γ S with
  | ok d S' =>
    rw [e] at h
    obtain ⟨items, h1, h2⟩ := h
    exact fun v H' n s r => hk ρ d items S' v H' h1 s r fun J j => h2 J H' n s j
  | ex c d S' => rw [e] at h; exact h
  | bad => rw [e] at h; exact h
theorem pr1 {H : Hp} {ρ : Rg} {vs : List V} {d : D} (h : Paired (Rep C H ρ) vs [d]) : ∃ v, vs = [v] ∧ Rep C H ρ v d := by
  cases h with | cons h r => cases r; exact ⟨_, rfl, h⟩
theorem pr2 {H : Hp} {ρ : Rg} {vs : List V} {d e : D} (h : Paired (Rep C H ρ) vs [d, e]) : ∃ v w, vs = [v, w] ∧ Rep C H ρ v d ∧ Rep C H ρ w e := by
  cases h with | cons h r => obtain ⟨w, rfl, h2⟩ := pr1 r; exact ⟨_, _, rfl, h, h2⟩
theorem pr3 {H : Hp} {ρ : Rg} {vs : List V} {d e f : D} (h : Paired (Rep C H ρ) vs [d, e, f]) : ∃ v w u, vs = [v, w, u] ∧ Rep C H ρ v d ∧ Rep C H ρ w e ∧ Rep C H ρ u f := by
  cases h with | cons h r => obtain ⟨w, u, rfl, h2, h3⟩ := pr2 r; exact ⟨_, _, _, rfl, h, h2, h3⟩
theorem Rep.int {H : Hp} {ρ : Rg} {v : V} {i : Int} (h : Rep C H ρ v (.int i)) : v = .int i := by
  rcases h with h | ⟨_, _, z, _⟩
  · cases h; rfl
  · cases z
theorem Rep.lstA {H : Hp} {ρ : Rg} {v : V} {ds : List D} (h : Rep C H ρ v (.lst ds)) : ∃ a xs, v = .ref a ∧ LstAt H ρ a xs ∧ RepA C H ρ xs ds := by
  rcases h with h | ⟨_, _, z, _⟩
  · cases h with | lst h r => exact ⟨_, _, rfl, h, r⟩
  · cases z
/-- an expression that is walked -/
theorem pi_seqP (a : At X C Φ G W) {tg l : Expr} {c : CE} (g : Good X C W l (ev Φ G c)) : PI X tg l (tDI C W (evs Φ G [c]) .seq) := by
  refine (pi_any g.1).mono fun σ H R q => ?_
  obtain ⟨ρ, Γ, S, st, rg, q⟩ := q
  rw [evs] at q
  refine ⟨ρ, Γ, S, st, rg, ?_⟩
  cases e : ev Φ G c Γ S with
  | bad => rw [e] at q; exact q
  | ex c d S' => rw [e] at q; exact q
  | ok d S1 =>
    rw [e] at q
    simp only [evs] at q
    obtain ⟨items, hi, q⟩ := q
    intro v H1 n1 s1 r1
    rw [a.hK]
    unfold itD at hi
    split at hi <;> first | (cases hi; done) | skip
    · rename_i hk hd
      cases hd
      cases hi
      obtain ⟨b, xs, rfl, hb, ra⟩ := r1.lstA
      exact .inl ⟨b, rfl, ⟨xs, hb.sq⟩, q _ H1 n1 s1 (it_list (fun H' ρ' n => (hb.nx n).sq) ra)⟩
    · rename_i hk hd
      cases hd
      cases hi
      rcases r1 with r1 | ⟨_, _, z, _⟩
      · cases r1 with
        | frz h ra => exact .inl ⟨_, rfl, ⟨_, h.sq⟩, q _ H1 n1 s1 (it_list (fun H' ρ' n => (h.nw n.w).sq) ra)⟩
      · cases z
    · rename_i hk hd
      cases hd
      cases hi
      rcases r1 with r1 | ⟨_, _, z, _⟩
      · cases r1 with
        | tup h ra => exact .inr (.inl ⟨_, rfl, ⟨_, h.sq⟩, q _ H1 n1 s1 (it_tup h ra)⟩)
      · cases z
    · rename_i hk hd
      cases hd
      cases hi
      rcases r1 with r1 | ⟨_, _, z, _⟩
      · cases r1
        exact .inr (.inr ⟨_, rfl, q _ H1 n1 s1 (it_str _)⟩)
      · cases z
    all_goals (rename_i hk _; cases hk)
theorem rgc_neg {a b : Int} (h1 : -(2 ^ 62) ≤ a) (h2 : a < 2 ^ 62) (h3 : -(2 ^ 62) ≤ b) (h4 : b < 2 ^ 62) : RgC a b (-1) (a - b).toNat := by
  first
  | exact RgC.neg h1 h2 h3 h4
  | exact RgC.neg ⟨h1, h2⟩ ⟨h3, h4⟩
  | exact RgC.neg ⟨h1, h2, h3, h4⟩
end
end EK

set_option Elab.async false
set_option linter.all false
set_option maxRecDepth 100000
set_option maxHeartbeats 4000000
namespace EK
open PySem L2 PySem.Spec PyProof.Rows
section
variable {X : Cx} {C : Ct} {Φ : Str → Option Fsem} {G : Str → Option D} {W : WX} {e : Expr} {f : Gam → Sto → R} {t : TE}
theorem rng_it {ds items : List D} (h : itD .rng ds = some items) : (∃ n, ds = [.int n] ∧ in62 n = true ∧ items = rngL 0 n.toNat) ∨ (∃ a b, ds = [.int a, .int b] ∧ in62 a = true ∧ in62 b = true ∧ items = rngL a (b - a).toNat) ∨
    ∃ a b, ds = [.int a, .int b, .int (-1)] ∧ in62 a = true ∧ in62 b = true ∧ items = rngS a (-1) (a - b).toNat := by
  unfold itD at h
  split at h
  all_goals first | (rename_i hk; cases hk; done) | skip
  · split at h
    · rename_i hc; cases h; exact .inl ⟨_, rfl, hc, rfl⟩
    · cases h
  · split at h
    · rename_i hc; cases h; exact .inr (.inl ⟨_, _, rfl, hc.1, hc.2, rfl⟩)
    · cases h
  · split at h
    · rename_i hc
      cases h
      obtain ⟨rfl, h1, h2⟩ := hc
      exact .inr (.inr ⟨_, _, rfl, h1, h2, rfl⟩)
    · cases h
  · cases h
theorem evs_len : ∀ {cs : List CE} {Γ : Gam} {S S' : Sto} {ds : List D}, evs Φ G cs Γ S = .ok ds S' → ds.length = cs.length
  | [], _, _, _, _, h => by rw [evs] at h; cases h; rfl
  | c :: cs, Γ, S, S', ds, h => by
    rw [evs] at h
    split at h
    · split at h
      · rename_i e2; cases h; rw [List.length_cons, List.length_cons, evs_len e2]
      · cases h
      · cases h
    · cases h
    · cases h
theorem chks_len : ∀ {cs : List CE} {es : List Expr} {sc : Scope} {N : List Str}, chks N sc cs es = true → cs.length = es.length
  | [], es, sc, N, h => by
    rw [chks.eq_def] at h
    dsimp only at h
    have : es = [] := by cases es with | nil => rfl | cons _ _ => cases h
    subst this; rfl
  | c :: cs, es, sc, N, h => by
    rw [chks.eq_def] at h
    dsimp only at h
    split at h
    · obtain ⟨h, h3⟩ := and2 h
      rw [List.length_cons, List.length_cons, chks_len h3]
    · cases h
/-- the reading's data have the arguments' number -/
theorem tDI_len {cs : List CE} {ik : Ik} {σ : L2.St} {H : Hp} {R : It → Hp → Prop} {Q' : List V → Hp → Prop} (h : tDI C W (evs Φ G cs) ik σ H R)
    (hk : ∀ (ρ : Rg) ds items S' vs H', ds.length = cs.length → itD ik ds = some items → StOk C H' ρ S' → Paired (Rep C H' ρ) vs ds → (∀ J, ItOk C J H' ρ items → R J H') → Q' vs H') : tDA C W (evs Φ G cs) σ H Q' := by
  obtain ⟨ρ, Γ, S, st, rg, h⟩ := h
  refine ⟨ρ, Γ, S, st, rg, ?_⟩
  cases e : evs Φ G cs Γ S with
  | ok d S' =>
    rw [e] at h
    obtain ⟨items, h1, h2⟩ := h
    exact fun v H' n s r => hk ρ d items S' v H' (evs_len e) h1 s r fun J j => h2 J H' n s j
  | ex c d S' => rw [e] at h; exact h
  | bad => rw [e] at h; exact h
theorem pi_rngP (a : At X C Φ G W) {tg : Expr} {p pos : Pos} {args : List CE} {es : List Expr} (hg : Gl X "range") (h : chks X.N X.env.scope args es = true) (h1 : 1 ≤ es.length) (h3 : es.length ≤ 3) (g : GoodA X C W es (evs Φ G args)) :
    PI X tg (.Call (.Name "range" p) es [] pos) (tDI C W (evs Φ G args) .rng) := by
  have hl := chks_len h
  have hm : X.mg "range" = none := a.blt _ (by decide)
  match es, hl, h1, h3, h, g with
  | [x], hl, _, _, h, g =>
    obtain ⟨e1, e2⟩ := args_facts (env := X.env) (pos := pos) h
    refine (pi_range1 hg hm g e1).mono fun σ H R q => tDI_len q fun ρ ds items S' vs H' hd hi st r k => ?_
    rw [hl] at hd
    rcases rng_it hi with ⟨n, rfl, hn, rfl⟩ | ⟨a, b, rfl, _⟩ | ⟨a, b, rfl, _⟩
    · obtain ⟨v, rfl, hv⟩ := pr1 r
      obtain rfl := hv.int
      obtain ⟨n1, n2⟩ := in62_iff.mp hn
      exact ⟨n, rfl, n1, n2, k _ (it_rng 0 n.toNat)⟩
    · cases hd
    · cases hd
  | [x, y], hl, _, _, h, g =>
    obtain ⟨c, cs, rfl⟩ := chks_head h
    obtain ⟨hx, _, ht⟩ := chks_tail h
    obtain ⟨c2, cs2, rfl⟩ := chks_head ht
    obtain ⟨hy, _, _⟩ := chks_tail ht
    refine (pi_range2 hg hm g (by rw [star_of hx, star_of hy]; rfl) (star_of hy)).mono fun σ H R q => tDI_len q fun ρ ds items S' vs H' hd hi st r k => ?_
    rw [hl] at hd
    rcases rng_it hi with ⟨n, rfl, hn, rfl⟩ | ⟨a, b, rfl, ha, hb, rfl⟩ | ⟨a, b, rfl, _⟩
    · cases hd
    · obtain ⟨v, w, rfl, hv, hw⟩ := pr2 r
      obtain rfl := hv.int
      obtain rfl := hw.int
      obtain ⟨n1, n2⟩ := in62_iff.mp ha
      obtain ⟨n3, n4⟩ := in62_iff.mp hb
      exact ⟨a, b, rfl, ⟨n1, n2, n3, n4⟩, k _ (it_rng a _)⟩
    · cases hd
  | [x, y, z], hl, _, _, h, g =>
    obtain ⟨e1, e2⟩ := args_facts (env := X.env) (pos := pos) h
    refine (pi_range3 hg hm g e1 e2).mono fun σ H R q => tDI_len q fun ρ ds items S' vs H' hd hi st r k => ?_
    rw [hl] at hd
    rcases rng_it hi with ⟨n, rfl, hn, rfl⟩ | ⟨a, b, rfl, _⟩ | ⟨a, b, rfl, ha, hb, rfl⟩
    · cases hd
    · cases hd
    · obtain ⟨v, w, u, rfl, hv, hw, hu⟩ := pr3 r
      obtain rfl := hv.int
      obtain rfl := hw.int
      obtain rfl := hu.int
      obtain ⟨n1, n2⟩ := in62_iff.mp ha
      obtain ⟨n3, n4⟩ := in62_iff.mp hb
      exact ⟨a, b, -1, (a - b).toNat, rfl, rgc_neg n1 n2 n3 n4, k _ (it_rngS a (-1) _)⟩
theorem zip2_it {ds items : List D} (h : itD .zip ds = some items) (hl : ds.length = 2) : ∃ a b xs ys, ds = [a, b] ∧ seqD a = some xs ∧ seqD b = some ys ∧ items = pairs xs ys := by
  match ds, hl with
  | [a, b], _ =>
    unfold itD at h
    dsimp only at h
    split at h
    · rename_i xs ys e1 e2; cases h; exact ⟨a, b, xs, ys, rfl, e1, e2, rfl⟩
    · cases h
theorem zip3_it {ds items : List D} (h : itD .zip ds = some items) (hl : ds.length = 3) : ∃ a b c xs ys zs, ds = [a, b, c] ∧ seqD a = some xs ∧ seqD b = some ys ∧ seqD c = some zs ∧ items = trips xs ys zs := by
  match ds, hl with
  | [a, b, c], _ =>
    unfold itD at h
    dsimp only at h
    split at h
    · rename_i xs ys zs e1 e2 e3; cases h; exact ⟨a, b, c, xs, ys, zs, rfl, e1, e2, e3, rfl⟩
    · cases h
theorem enm_it {ds items : List D} (h : itD .enm ds = some items) (hl : ds.length = 1) : ∃ a xs, ds = [a] ∧ seqD a = some xs ∧ items = enumFrom 0 xs := by
  match ds, hl with
  | [a], _ =>
    unfold itD at h
    dsimp only at h
    split at h
    · rename_i xs e1; cases h; exact ⟨a, xs, rfl, e1, rfl⟩
    · cases h
theorem pi_zipP (a : At X C Φ G W) {elts : List Expr} {kk : Nat} {tp p pos : Pos} {args : List CE} {x y : Expr} (hg : Gl X "zip") (h : chks X.N X.env.scope args [x, y] = true) (g : GoodA X C W [x, y] (evs Φ G args)) :
    PI X (.Tuple elts kk tp) (.Call (.Name "zip" p) [x, y] [] pos) (tDI C W (evs Φ G args) .zip) := by
  have hl := chks_len h
  obtain ⟨e1, e2⟩ := args_facts (env := X.env) (pos := pos) h
  refine (pi_z2 hg (a.blt _ (by decide)) g e1 e2).mono fun σ H R q => tDI_len q fun ρ ds items S' vs H' hd hi st r k => ?_
  obtain ⟨d1, d2, xs, ys, rfl, s1, s2, rfl⟩ := zip2_it hi (by rw [hd, hl]; rfl)
  obtain ⟨v, w, rfl, hv, hw⟩ := pr2 r
  obtain ⟨k1, us, rfl, t1⟩ := seq_kd hv s1
  obtain ⟨k2, ws, rfl, t2⟩ := seq_kd hw s2
  rw [a.hK]
  exact ⟨k1, k2, us, ws, rfl, (t1 _ _ (Nx.refl _ _)).1, (t2 _ _ (Nx.refl _ _)).1, k _ (it_z2 t1 t2)⟩
theorem pi_zip3P (a : At X C Φ G W) {elts : List Expr} {kk : Nat} {tp p pos : Pos} {args : List CE} {x y z : Expr} (hg : Gl X "zip") (h : chks X.N X.env.scope args [x, y, z] = true) (g : GoodA X C W [x, y, z] (evs Φ G args)) :
    PI X (.Tuple elts kk tp) (.Call (.Name "zip" p) [x, y, z] [] pos) (tDI C W (evs Φ G args) .zip) := by
  have hl := chks_len h
  obtain ⟨e1, e2⟩ := args_facts (env := X.env) (pos := pos) h
  refine (pi_z3 hg (a.blt _ (by decide)) g e1 e2).mono fun σ H R q => tDI_len q fun ρ ds items S' vs H' hd hi st r k => ?_
  obtain ⟨d1, d2, d3, xs, ys, zs, rfl, s1, s2, s3, rfl⟩ := zip3_it hi (by rw [hd, hl]; rfl)
  obtain ⟨v, w, u, rfl, hv, hw, hu⟩ := pr3 r
  obtain ⟨k1, us, rfl, t1⟩ := seq_kd hv s1
  obtain ⟨k2, ws, rfl, t2⟩ := seq_kd hw s2
  obtain ⟨k3, os, rfl, t3⟩ := seq_kd hu s3
  rw [a.hK]
  exact ⟨k1, k2, k3, us, ws, os, rfl, (t1 _ _ (Nx.refl _ _)).1, (t2 _ _ (Nx.refl _ _)).1, (t3 _ _ (Nx.refl _ _)).1, k _ (it_z3 t1 t2 t3)⟩
theorem pi_enmP (a : At X C Φ G W) {elts : List Expr} {kk : Nat} {tp p pos : Pos} {args : List CE} {x : Expr} (hg : Gl X "enumerate") (h : chks X.N X.env.scope args [x] = true) (g : GoodA X C W [x] (evs Φ G args)) :
    PI X (.Tuple elts kk tp) (.Call (.Name "enumerate" p) [x] [] pos) (tDI C W (evs Φ G args) .enm) := by
  have hl := chks_len h
  obtain ⟨e1, e2⟩ := args_facts (env := X.env) (pos := pos) h
  refine (pi_en hg (a.blt _ (by decide)) g e1).mono fun σ H R q => tDI_len q fun ρ ds items S' vs H' hd hi st r k => ?_
  obtain ⟨d1, xs, rfl, s1, rfl⟩ := enm_it hi (by rw [hd, hl]; rfl)
  obtain ⟨v, rfl, hv⟩ := pr1 r
  obtain ⟨k1, us, rfl, t1⟩ := seq_kd hv s1
  rw [a.hK]
  exact ⟨k1, us, rfl, (t1 _ _ (Nx.refl _ _)).1, k _ (it_en t1)⟩
/-- the check of what is walked -/
def chkI (N : List Str) (sc : Scope) (ik : Ik) (ia : List CE) (iter tgt : Expr) : Bool := match ik with
  | .seq => (match ia with | [a] => chk N sc a iter | _ => false)
  | .rng => (match iter with | .Call (.Name x _) xs [] _ => decide (x = ("range" : Str)) && glB sc x && decide (1 ≤ xs.length) && decide (xs.length ≤ 3) && chks N sc ia xs | _ => false)
  | .zip => (match iter, tgt with | .Call (.Name x _) [p, q] [] _, .Tuple .. => decide (x = ("zip" : Str)) && glB sc x && chks N sc ia [p, q] | .Call (.Name x _) [p, q, r] [] _, .Tuple .. => decide (x = ("zip" : Str)) && glB sc x && chks N sc ia [p, q, r] | _, _ => false)
  | .enm => (match iter, tgt with | .Call (.Name x _) [p] [] _, .Tuple .. => decide (x = ("enumerate" : Str)) && glB sc x && chks N sc ia [p] | _, _ => false)
/-- each term of a list is good -/
def AllGood (X : Cx) (C : Ct) (Φ : Str → Option Fsem) (G : Str → Option D) (W : WX) (cs : List CE) : Prop := ∀ c ∈ cs, ∀ e, chk X.N X.env.scope c e = true → Good X C W e (ev Φ G c)
theorem AllGood.args {cs : List CE} (h : AllGood X C Φ G W cs) : ∀ es, chks X.N X.env.scope cs es = true → GoodA X C W es (evs Φ G cs) := by
  induction cs with
  | nil => intro es q; exact ga_nil q
  | cons c cs ih => intro es q; exact ga_cons q (h c List.mem_cons_self) (ih fun c' hc => h c' (List.mem_cons_of_mem _ hc))
theorem pi_ok (a : At X C Φ G W) {ik : Ik} {ia : List CE} {iter tgt : Expr} (h : chkI X.N X.env.scope ik ia iter tgt = true) (g : AllGood X C Φ G W ia) : PI X tgt iter (tDI C W (evs Φ G ia) ik) := by
  unfold chkI at h
  split at h
  · split at h
    · exact pi_seqP a (g _ List.mem_cons_self _ h)
    · cases h
  · split at h
    · obtain ⟨h, h5⟩ := and2 h
      obtain ⟨h, h4⟩ := and2 h
      obtain ⟨h, h3⟩ := and2 h
      obtain ⟨h1, h2⟩ := and2 h
      rw [decide_eq_true_iff] at h1 h3 h4
      subst h1
      exact pi_rngP a (gl_of h2).1 h5 h3 h4 (g.args _ h5)
    · cases h
  · split at h
    · obtain ⟨h, h3⟩ := and2 h
      obtain ⟨h1, h2⟩ := and2 h
      rw [decide_eq_true_iff] at h1
      subst h1
      exact pi_zipP a (gl_of h2).1 h3 (g.args _ h3)
    · obtain ⟨h, h3⟩ := and2 h
      obtain ⟨h1, h2⟩ := and2 h
      rw [decide_eq_true_iff] at h1
      subst h1
      exact pi_zip3P a (gl_of h2).1 h3 (g.args _ h3)
    · cases h
  · split at h
    · obtain ⟨h, h3⟩ := and2 h
      obtain ⟨h1, h2⟩ := and2 h
      rw [decide_eq_true_iff] at h1
      subst h1
      exact pi_enmP a (gl_of h2).1 h3 (g.args _ h3)
    · cases h
/-! ### targets -/
def gMany : List Nat → TGs
  | [] => gNil
  | i :: is => gCons (gName i) (gMany is)
def gT (K : PySem.W.Frag) : Tg → TG
  | .one i => gName i
  | .many is => gTup K is.length (gMany is)
theorem Rep.tupA {H : Hp} {ρ : Rg} {v : V} {ds : List D} (h : Rep C H ρ v (.tup ds)) : ∃ a xs, v = .ref a ∧ TupAt C H ρ a xs ∧ RepA C H ρ xs ds := by
  rcases h with h | ⟨_, _, z, _⟩
  · cases h with | tup h r => exact ⟨_, _, rfl, h, r⟩
  · cases z
/-- slots outside is are as they were -/
def Only (is : List Nat) (σ σ' : L2.St) : Prop := σ'.length = σ.length ∧ ∀ j, j ∉ is → σ'[j]? = σ[j]?
theorem many_ok {H : Hp} {ρ : Rg} : ∀ {is : List Nat} {ds : List D} {xs : List V} {σ : L2.St} {Γ Γ' : Gam} {Q : L2.St → Hp → Prop}, RepG C H ρ σ Γ → RepA C H ρ xs ds → setMany is ds Γ = some Γ' → (∀ σ', RepG C H ρ σ' Γ' → Only is σ σ' → Q σ' H) → gMany is xs σ H Q
  | [], ds, xs, σ, Γ, Γ', Q, rg, ra, h, k => by
    cases ra with
    | nil => cases h; exact ⟨rfl, k σ rg ⟨rfl, fun _ _ => rfl⟩⟩
    | cons _ _ => cases h
  | i :: is, ds, xs, σ, Γ, Γ', Q, rg, ra, h, k => by
    cases ra with
    | nil => cases h
    | cons r1 r2 =>
      refine ⟨_, _, rfl, ?_⟩
      refine many_ok (rg.set (i := i) (.inl r1)) r2 h fun σ' rg' o => k σ' rg' ⟨by rw [o.1, List.length_set], fun j hj => ?_⟩
      rw [o.2 j (fun z => hj (List.mem_cons_of_mem _ z)), List.getElem?_set_ne (fun z => hj (by rw [← z]; exact List.mem_cons_self))]
theorem setMany_len : ∀ {is : List Nat} {ds : List D} {Γ Γ' : Gam}, setMany is ds Γ = some Γ' → ds.length = is.length
  | [], [], _, _, _ => rfl
  | i :: is, d :: ds, _, _, h => by rw [List.length_cons, List.length_cons, setMany_len (is := is) h]
  | [], _ :: _, _, _, h => by cases h
  | _ :: _, [], _, _, h => by cases h
theorem gT_ok {H : Hp} {ρ : Rg} {tg : Tg} {d : D} {v : V} {σ : L2.St} {Γ Γ' : Gam} {Q : L2.St → Hp → Prop} (rg : RepG C H ρ σ Γ) (r : Rep C H ρ v d) (h : setTg tg d Γ = some Γ') (k : ∀ σ', RepG C H ρ σ' Γ' → Only (tgIs tg) σ σ' → Q σ' H) :
    gT C.K tg v σ H Q := by
  cases tg with
  | one i =>
    cases h
    refine k _ (rg.set r) ⟨by rw [List.length_set], fun j hj => ?_⟩
    rw [List.getElem?_set_ne (fun z => hj (by rw [← z]; exact List.mem_singleton.mpr rfl))]
  | many is =>
    unfold setTg at h
    split at h
    · rename_i hh; cases hh
    · rename_i hh; cases hh
      obtain ⟨a, xs, rfl, ha, ra⟩ := r.tupA
      exact ⟨a, xs, rfl, ha.sq, by rw [ra.length]; exact setMany_len h, many_ok rg ra h k⟩
    · cases h
theorem tg_name {cl : Bool} {x : Str} {i : Nat} {p : Pos} (nd : X.N.Nodup) (hf : cl = true → ∀ x, X.fn x = true) (h1 : X.N[i]? = some x) (h2 : okLoc cl X.env.scope x = true) : PG X (.Name x p) (gName i) := by
  unfold okLoc at h2
  split at h2
  · exact pg_name nd h1 (.inl (by assumption)) (.inr (by assumption))
  · exact pg_name nd h1 (.inr (by assumption)) (.inl (hf h2 x))
  · cases h2
theorem tgs_ok {cl : Bool} (nd : X.N.Nodup) (hf : cl = true → ∀ x, X.fn x = true) : ∀ {is : List Nat} {es : List Expr}, tgsB cl X.env.scope X.N is es = true → PGs X es (gMany is) ∧ (assignEach es X.env).length = is.length ∧ (assignEach es X.env).findIdx? (·.1) = none
  | [], es, h => by
    unfold tgsB at h
    split at h
    · exact ⟨pgs_nil, rfl, rfl⟩
    · rename_i z; cases z
    · cases h
  | i :: is, es, h => by
    unfold tgsB at h
    split at h
    · rename_i z; cases z
    · rename_i i' is' x p es' z
      cases z
      obtain ⟨h, h3⟩ := and2 h
      obtain ⟨h1, h2⟩ := and2 h
      rw [decide_eq_true_iff] at h1
      obtain ⟨k1, k2, k3⟩ := tgs_ok nd hf h3
      refine ⟨pgs_cons (tg_name nd hf h1 h2) k1 rfl, ?_, ?_⟩
      · show (assignEach es' X.env).length + 1 = _
        rw [k2]; rfl
      · show List.findIdx? _ ((false, assign (.Name x p) X.env) :: assignEach es' X.env) = none
        rw [List.findIdx?_cons, k3]; rfl
    · cases h
theorem tg_ok {cl : Bool} (hK : X.K = C.K) (hc : X.calm = true) (nd : X.N.Nodup) (hf : cl = true → ∀ x, X.fn x = true) {tg : Tg} {e : Expr} (h : tgB cl X.env.scope X.N tg e = true) : PG X e (gT C.K tg) := by
  cases tg with
  | one i =>
    unfold tgB at h
    split at h
    · rename_i z; cases z
      obtain ⟨h1, h2⟩ := and2 h
      rw [decide_eq_true_iff] at h1
      exact tg_name nd hf h1 h2
    · rename_i z; cases z
    · cases h
  | many is =>
    unfold tgB at h
    split at h
    · rename_i z; cases z
    · rename_i z; cases z
      obtain ⟨k1, k2, k3⟩ := tgs_ok nd hf h
      show PG X _ (gTup C.K is.length (gMany is))
      rw [← hK]
      exact pg_tup hc k1 k2 k3
    · cases h
end
end EK

set_option Elab.async false
set_option linter.all false
set_option maxRecDepth 100000
set_option maxHeartbeats 4000000
namespace EK
open PySem L2 PySem.Spec PyProof.Rows
section
variable {X : Cx} {C : Ct} {Φ : Str → Option Fsem} {G : Str → Option D} {W : WX} {e : Expr} {f : Gam → Sto → R} {t : TE}
/-! ### the comprehension -/
theorem wipe_len (σ : L2.St) : ∀ vs : List Nat, (wipe σ vs).length = σ.length
  | [] => rfl
  | v :: vs => by show ((wipe σ vs).set v none).length = _; rw [List.length_set, wipe_len σ vs]
theorem wipe_get (σ : L2.St) : ∀ (vs : List Nat) (j : Nat), (wipe σ vs)[j]? = if j ∈ vs then (if j < σ.length then some none else none) else σ[j]?
  | [], j => by rw [if_neg (by simp)]; rfl
  | v :: vs, j => by
    show ((wipe σ vs).set v none)[j]? = _
    rw [List.getElem?_set]
    by_cases h : v = j
    · subst h
      rw [if_pos rfl, if_pos List.mem_cons_self, wipe_len]
    · rw [if_neg h, wipe_get σ vs j]
      by_cases hj : j ∈ vs
      · rw [if_pos hj, if_pos (List.mem_cons_of_mem _ hj)]
      · rw [if_neg hj, if_neg (fun z => by rcases List.mem_cons.mp z with z | z; exact h z.symm; exact hj z)]
theorem wipe_only {is vs : List Nat} {σ σ' : L2.St} (h : ∀ i ∈ is, i ∈ vs) (o : Only is (wipe σ vs) σ') : wipe σ' vs = wipe σ vs := by
  apply List.ext_getElem?
  intro j
  rw [wipe_get, wipe_get]
  by_cases hj : j ∈ vs
  · rw [if_pos hj, if_pos hj, o.1, wipe_len]
  · rw [if_neg hj, if_neg hj, o.2 j (fun z => hj (h j z)), wipe_get, if_neg hj]
theorem rlb_eq (scope : Scope) (cl : List (Str × Addr)) (Ca : Addr) (env : Env) : (compEnvC scope cl Ca env).scope = rlb scope env.scope := rfl

theorem RepG.keep {H : Hp} {ρ : Rg} {σ : L2.St} {Γ : Gam} {p : Addr} {o : HO} (g : RepG C H ρ σ Γ) (h : H p = none) : RepG C (upd H p o) (ρ.keep p) σ Γ := g.nx (Nx.keep h) fun _ _ e => e
theorem Rep.nw {H H' : Hp} {ρ : Rg} {v : V} {d : D} (N : Nw H ρ H' ρ) (h : Rep C H ρ v d) : Rep C H' ρ v d := by
  rcases h with h | ⟨k, a, e1, e2, e3⟩
  · exact .inl (h.nw N)
  · exact .inr ⟨k, a, e1, e2, e3⟩
theorem RepG.nw {H H' : Hp} {ρ : Rg} {σ : L2.St} {Γ : Gam} (N : Nw H ρ H' ρ) (g : RepG C H ρ σ Γ) : RepG C H' ρ σ Γ :=
  ⟨g.len, fun i d e => by obtain ⟨v, h1, h2⟩ := g.at_ i d e; exact ⟨v, h1, h2.nw N⟩⟩
/-- from the heap that the comprehension began with to one with its list -/
structure Mid (H₁ : Hp) (ρ : Rg) (Dl : Addr) (H : Hp) : Prop where
  kp : ∀ a o, H₁ a = some o → a ∉ ρ.st → H a = some o
  out : Dl ∉ ρ
theorem Mid.nx {H₁ H : Hp} {ρ : Rg} {Dl : Addr} (m : Mid H₁ ρ Dl H) : Nx H₁ ρ H ρ := ⟨m.kp, fun _ z => .inl z⟩
theorem Mid.step {H₁ H H' : Hp} {ρ : Rg} {Dl : Addr} (m : Mid H₁ ρ Dl H) (n : Nx H (ρ.keep Dl) H' (ρ.keep Dl)) : Mid H₁ ρ Dl H' := ⟨fun a o h ha => n.kp a o (m.kp a o h ha) ha, m.out⟩
theorem Mid.put {H₁ H : Hp} {ρ : Rg} {Dl : Addr} {o : HO} (m : Mid H₁ ρ Dl H) (h : H₁ Dl = none) : Mid H₁ ρ Dl (upd H Dl o) := ⟨fun a u e ha => by rw [upd_ne (ne_of_none e h)]; exact m.kp a u e ha, m.out⟩
/-- how a comprehension's turns go on -/
theorem lc_rec {cond elt : Gam → Sto → R} {tg : Tg} {own : List Nat} {J : It} {items : List D} {H₁ : Hp} {ρ : Rg} {S₁ : Sto} {σ : L2.St} {Γ : Gam} {Q : VK} {Dl : Addr} {tt : TT} {te : TE}
    (st : StOk C H₁ ρ S₁) (rg : RepG C H₁ ρ σ Γ) (hj : ItOk C J H₁ ρ items) (hD : H₁ Dl = none) (hz : items.length ≤ szL) (htg : ∀ i ∈ tgIs tg, i ∈ own)
    (htt : ∀ σ H Q, tDT C (fun _ _ _ _ => False) cond σ H Q → tt σ H Q) (hte : ∀ σ H Q, tDE C (fun _ _ _ _ => False) elt σ H Q → te σ H Q)
    (q : Fin C W ρ σ H₁ Q (lcLoop cond elt tg (wipeG Γ own) items [] S₁)) :
    ∃ Wl : Nat → Nat → Hp → Prop, (∃ m, Wl 0 m (upd H₁ Dl (.lst []))) ∧ ∀ i m H, Wl i m H →
      (J.stop i H ∧ Q (.ref Dl) H) ∨ (J.go i H ∧ ∃ Nx' : Hp → Prop, (∀ H', Nx' H' → ∃ m', m' < m ∧ Wl (i + 1) m' H') ∧ ∀ x H', J.yld i H x H' → gT C.K tg x (wipe σ own) H' fun σ2 H2 => wipe σ2 own = wipe σ own ∧ tt σ2 H2 fun b H3 =>
        if b = true then te σ2 H3 fun y H4 => ∃ acc, H4 Dl = some (.lst acc) ∧ acc.length < sizeLine ∧ Nx' (upd H4 Dl (.lst (acc ++ [y]))) else Nx' H3) := by
  obtain ⟨g, y, w, hg, hy⟩ := hj
  have hf := st.free hD
  refine lc_it w (g := gT C.K tg) (fun i H => ∃ (acc : List D) (vs : List V) (S : Sto), Mid H₁ ρ Dl H ∧ StOk C H (ρ.keep Dl) S ∧ RepG C H (ρ.keep Dl) σ Γ ∧ H Dl = some (.lst vs) ∧ RepA C H (ρ.keep Dl) vs acc ∧ acc.length ≤ i ∧
    Fin C W ρ σ H₁ Q (lcLoop cond elt tg (wipeG Γ own) (items.drop i) acc S)) ?_ ?_ ?_ ?_
  · exact ⟨[], [], S₁, ⟨fun a o h ha => (Nx.keep (o := .lst []) hD).kp a o h ha, hf⟩, st.keep hD, rg.keep hD, upd_same, .nil, Nat.zero_le _, q⟩
  · rintro i H _ ⟨acc, vs, S, m, _⟩
    exact hg H ρ m.nx
  · rintro i x H H' hi ⟨acc, vs, S, m, sk, rgk, hv, ra, hl, q⟩ hyi
    have nk : Nx H₁ ρ H (ρ.keep Dl) := ⟨m.kp, fun a z => by
      rcases Rg.mem_keep.mp z with z | z
      · exact .inl z
      · rw [z]; exact .inr hD⟩
    obtain ⟨hc, d, hd, rd⟩ := hy i H (ρ.keep Dl) x H' nk (fun a ha => sk.there ha) hyi
    -- the step from H to H' is nothing, or one new object
    have n1 : Nx H (ρ.keep Dl) H' (ρ.keep Dl) ∧ StOk C H' (ρ.keep Dl) S := by
      rcases hc with rfl | ⟨T, o, hT, rfl⟩
      · exact ⟨Nx.refl _ _, sk⟩
      · exact ⟨Nx.new hT, sk.new hT⟩
    have hdrop : items.drop i = d :: items.drop (i + 1) := by
      have hlt := (List.getElem?_eq_some_iff.mp hd).1
      rw [List.drop_eq_getElem_cons hlt]
      have := (List.getElem?_eq_some_iff.mp hd).2
      rw [this]
    rw [hdrop] at q
    unfold lcLoop at q
    cases hs : setTg tg d (wipeG Γ own) with
    | none => rw [hs] at q; exact q.elim
    | some Γ' =>
      rw [hs] at q
      refine gT_ok ((rgk.nx0 n1.1).wipe own) (.inl rd) hs fun σ2 rg2 o2 => ⟨wipe_only htg o2, ?_⟩
      refine htt _ _ _ ⟨ρ.keep Dl, Γ', S, n1.2, rg2, ?_⟩
      dsimp only at q
      cases e1 : cond Γ' S with
      | bad => rw [e1] at q; exact q.elim
      | ex c d S' => rw [e1] at q; exact q.elim
      | ok b S1 =>
        rw [e1] at q
        cases b with
        | bl b =>
          refine ⟨b, rfl, fun H3 n3 s3 => ?_⟩
          have m3 := (m.step n1.1).step n3
          have hv3 : H3 Dl = some (.lst vs) := n3.kp _ _ (n1.1.kp _ _ hv (fun z => hf (Rg.of_st z))) (fun z => hf (Rg.of_st z))
          have rg3 := rgk.nx0 (n1.1.trans n3)
          have ra3 := ra.nx (n1.1.trans n3)
          cases b with
          | false => exact ⟨acc, vs, S1, m3, s3, rg3, hv3, ra3, by omega, q⟩
          | true =>
            refine hte _ _ _ ⟨ρ.keep Dl, Γ', S1, s3, rg2.nx0 n3, ?_⟩
            dsimp only at q
            cases e2 : elt Γ' S1 with
            | bad => rw [e2] at q; exact q.elim
            | ex c d S' => rw [e2] at q; exact q.elim
            | ok d2 S2 =>
              rw [e2] at q
              dsimp only at q
              intro v H4 n4 s4 r4
              split at q
              · rename_i hn
                have hv4 : H4 Dl = some (.lst vs) := n4.kp _ _ hv3 (fun z => hf (Rg.of_st z))
                have hex : Dl ∈ (ρ.keep Dl).ex := List.mem_append_right _ (List.mem_singleton.mpr rfl)
                have nw : Nw H4 (ρ.keep Dl) (upd H4 Dl (.lst (vs ++ [v]))) (ρ.keep Dl) := Nw.mut (Rg.of_ex hex)
                have hlen := ra3.length
                have hil : i < items.length := (List.getElem?_eq_some_iff.mp hd).1
                refine ⟨vs, hv4, by rw [hlen, szL_eq]; omega, acc ++ [d2], vs ++ [v], S2, (m3.step n4).put hD, s4.mutEx hex, (rg3.nx0 n4).nw nw, upd_same, ((ra3.nx n4).nw nw).append (.cons ((r4.d hn).nw nw) .nil), by rw [List.length_append, List.length_singleton]; omega, q⟩
              · exact q.elim
        | _ => exact q.elim
  · rintro H ⟨acc, vs, S, m, sk, rgk, hv, ra, hl, q⟩
    rw [List.drop_length] at q
    unfold lcLoop at q
    exact q (.ref Dl) H m.nx sk.unkeep (.inl (.lst ⟨hv, hf⟩ (ra.less fun a z => Rg.mem_keep.mpr (.inl z))))
end
end EK

set_option Elab.async false
set_option linter.all false
set_option maxRecDepth 100000
set_option maxHeartbeats 4000000
namespace EK
open PySem L2 PySem.Spec PyProof.Rows
section
variable {X : Cx} {C : Ct} {Φ : Str → Option Fsem} {G : Str → Option D} {W : WX} {e : Expr}
/-! ### defs as values, a display with a star -/
theorem vis_of {sc : Scope} {x : Str} (h2 : visB sc x = true) : Vis sc x := by
  unfold visB at h2
  split at h2
  · exact .inl (by assumption)
  · exact .inr (.inl (by assumption))
  · exact .inr (.inr (by assumption))
  · cases h2
theorem g_fnv (a : At X C Φ G W) {y : Str} (h : chk X.N X.env.scope (.fnv y) e = true) : Good X C W e (ev Φ G (.fnv y)) := by
  rw [chk.eq_def] at h
  dsimp only at h
  split at h
  · rename_i x p
    rw [Bool.and_eq_true, decide_eq_true_iff] at h
    obtain ⟨rfl, h2⟩ := h
    obtain ⟨g1, g2, g3⟩ := gl_of h2
    cases hd : Φ x with
    | none =>
      refine good_plain ⟨fun pins s σ H Q I q => ?_⟩ rfl
      obtain ⟨ρ, Γ, S, st, rg, q⟩ := q
      rw [ev, hd] at q
      exact q.elim
    | some F =>
      obtain ⟨f, fd, ps, k, hm, _⟩ := a.fns x F hd
      refine good_plain ((pe_glob (pos := p) (v := .ref f) g1 hm rfl g2).mono fun σ H Q q => ?_) rfl
      obtain ⟨ρ, Γ, S, st, rg, q⟩ := q
      rw [ev, hd] at q
      exact q (.ref f) H (Nx.refl H ρ) st (.inl (.fn (by rw [← a.hmg]; exact hm)))
  · cases h
theorem g_callv (a : At X C Φ G W) {i : Nat} {args : List CE} (h : chk X.N X.env.scope (.callv i args) e = true) (ia : ∀ es, chks X.N X.env.scope args es = true → GoodA X C W es (evs Φ G args)) : Good X C W e (ev Φ G (.callv i args)) := by
  rw [chk.eq_def] at h
  dsimp only at h
  split at h
  · rename_i x p y ys q0
    obtain ⟨h1, h3⟩ := and2 h
    unfold varB at h1
    obtain ⟨h1, k4⟩ := and2 h1
    obtain ⟨h1, k3⟩ := and2 h1
    obtain ⟨k1, k2⟩ := and2 h1
    rw [decide_eq_true_iff] at k1
    obtain ⟨e1, e2⟩ := args_facts (env := X.env) (pos := q0) h3
    refine good_plain ((pe_callVG (p := p) (i := i) (Xc := L2.CX X.prog X.w) (E := WE W) (J := fun f sp => ∃ x F, Φ x = some F ∧ X.mg x = some (.ref f) ∧ sp = spD C F) (fun f sp hJ => ?_) k1 (vis_of k2) (fun σ => passAt a.tk σ) (ia _ h3) (by simpa using k3) (by simpa using k4) e1 e2).mono fun σ H Q q => ?_) rfl
    · obtain ⟨x', F, hF, hm, rfl⟩ := hJ
      obtain ⟨f', fd, ps, k, hm', hk, hb, hf, hr⟩ := a.fns x' F hF
      rw [hm] at hm'
      cases hm'
      exact ⟨fd, ps, k, hk, hb.b, hf, hr⟩
    · obtain ⟨ρ, Γ, S, st, rg, q⟩ := q
      rw [ev] at q
      split at q
      · rename_i x' hx'
        split at q
        · rename_i F hF
          obtain ⟨v, hv, rv⟩ := rg.at_ i _ hx'
          rcases rv with rv | ⟨_, _, z, _⟩
          · cases rv with
            | fn hm =>
              rename_i f
              refine ⟨f, spD C F, hv, ⟨x', F, hF, by rw [a.hmg]; exact hm, rfl⟩, ?_⟩
              refine tDA_bind st rg q fun ds S1 vs H1 n1 s1 r1 rg1 q1 => ?_
              refine ⟨ds, ρ, S1, s1, r1, ?_⟩
              cases hr : F ds S1 with
              | bad => rw [hr] at q1; exact q1
              | ok d S2 => rw [hr] at q1; exact q1
              | ex c d S2 => rw [hr] at q1; exact q1
          · cases z
        · exact q.elim
      · exact q.elim
  · cases h
theorem PK.mono {kws : List Keyword} {t t' : TA} (h : PK X kws t) (i : ∀ σ H Q, t' σ H Q → t σ H Q) : PK X kws t' := ⟨fun pos pins s σ H Q I q => h.run pos pins s σ H Q I (i σ H Q q)⟩
theorem gk_all : ∀ {cs : List CE} {kws : List Keyword}, AllGood X C Φ G W cs → chks X.N X.env.scope cs (kws.map (·.value)) = true → PK X kws (tDA C W (evs Φ G cs))
  | [], kws, _, h => by
    rw [chks.eq_def] at h
    dsimp only at h
    have : kws = [] := by cases kws with | nil => rfl | cons _ _ => cases h
    subst this
    refine PK.mono pk_nil fun σ H Q q => ?_
    obtain ⟨ρ, Γ, S, st, rg, q⟩ := q
    rw [evs] at q
    exact q [] H (Nx.refl _ _) st .nil
  | c :: cs, kws, g, h => by
    rw [chks.eq_def] at h
    dsimp only at h
    cases kws with
    | nil => cases h
    | cons kw kws =>
    obtain ⟨nm, e, kpos⟩ := kw
    obtain ⟨h, h3⟩ := and2 h
    obtain ⟨h1, h2⟩ := and2 h
    refine PK.mono (pk_cons (g c List.mem_cons_self e h2).1 (gk_all (fun c' hc => g c' (List.mem_cons_of_mem _ hc)) h3)) fun σ H Q q => ?_
    obtain ⟨ρ, Γ, S, st, rg, q⟩ := q
    rw [evs] at q
    refine ⟨ρ, Γ, S, st, rg, ?_⟩
    cases e1 : ev Φ G c Γ S with
    | bad => rw [e1] at q; exact q
    | ex c d S' => rw [e1] at q; exact q
    | ok d S1 =>
      rw [e1] at q
      dsimp only at q
      intro v H1 n1 s1 r1
      refine ⟨ρ, Γ, S1, s1, rg.nx0 n1, ?_⟩
      cases e2 : evs Φ G cs Γ S1 with
      | bad => rw [e2] at q; exact q
      | ex c d S' => rw [e2] at q; exact fun Ca dd v H2 e n s q' nd r => q Ca dd v H2 e (n1.trans n) s q' nd r
      | ok ds S2 =>
        rw [e2] at q
        exact fun vs H2 n2 s2 r2 => q (v :: vs) H2 (n1.trans n2) s2 (.cons (r1.nx0 n2) r2)
theorem kw_facts {env : Env} {pos : Pos} : ∀ {kws : List Keyword}, kws.all (·.arg.isSome) = true → (backToKw pos (keywordEach kws env)).all (·.1.isSome) = true ∧ (backToKw pos (keywordEach kws env)).filterMap (·.1) = kws.filterMap (·.arg) ∧ (backToKw pos (keywordEach kws env)).any (·.1.isNone) = false
  | [], _ => ⟨rfl, rfl, rfl⟩
  | ⟨nm, e, kp⟩ :: kws, h => by
    rw [List.all_cons, Bool.and_eq_true] at h
    obtain ⟨i1, i2, i3⟩ := kw_facts (env := env) (pos := pos) h.2
    cases nm with
    | none => cases h.1
    | some x =>
      unfold backToKw at i1 i2 i3 ⊢
      refine ⟨?_, ?_, ?_⟩
      · rw [keywordEach, List.map_cons, List.all_cons, i1]; rfl
      · rw [keywordEach, List.map_cons]
        show x :: _ = x :: _
        rw [i2]
      · rw [keywordEach, List.map_cons, List.any_cons, i3]; rfl
theorem g_callk (a : At X C Φ G W) {fn : Str} {args : List CE} (h : chk X.N X.env.scope (.callk fn args) e = true) (i : AllGood X C Φ G W args) : Good X C W e (ev Φ G (.callk fn args)) := by
  rw [chk.eq_def] at h
  dsimp only at h
  split at h
  · rename_i x p kws q0
    obtain ⟨h, h3⟩ := and2 h
    obtain ⟨h, h5⟩ := and2 h
    obtain ⟨h, h4⟩ := and2 h
    obtain ⟨h1, h2⟩ := and2 h
    rw [decide_eq_true_iff] at h1 h4
    subst h1
    obtain ⟨g1, g2, g3⟩ := gl_of h2
    cases hF : Φ x with
    | none =>
      refine good_plain ⟨fun pins s σ H Q I q => ?_⟩ rfl
      obtain ⟨ρ, Γ, S, st, rg, q⟩ := q
      rw [ev, hF] at q
      exact q.elim
    | some F =>
      obtain ⟨fa, fd, ps, k, hm, hk, hb, hf, hr⟩ := a.fns x F hF
      obtain ⟨k1, k2, k3⟩ := kw_facts (env := X.env) (pos := q0) h5
      refine good_plain ((pe_callGK (p := p) hf hr g1 hm hk (hb.k _ h4) (fun σ => passAt a.tk σ) (gk_all i h3) g2 k1 k2 (by rw [k3]; rfl)).mono fun σ H Q q => ?_) rfl
      obtain ⟨ρ, Γ, S, st, rg, q⟩ := q
      rw [ev, hF] at q
      refine tDA_bind st rg q fun ds S1 vs H1 n1 s1 r1 rg1 q1 => ?_
      refine ⟨ds, ρ, S1, s1, r1, ?_⟩
      cases hr : F ds S1 with
      | bad => rw [hr] at q1; exact q1
      | ok d S2 => rw [hr] at q1; exact q1
      | ex c d S2 => rw [hr] at q1; exact q1
  · cases h
theorem g_tupS (a : At X C Φ G W) {c1 c2 : CE} (h : chk X.N X.env.scope (.tupS c1 c2) e = true) (i1 : ∀ e, chk X.N X.env.scope c1 e = true → Good X C W e (ev Φ G c1)) (i2 : ∀ e, chk X.N X.env.scope c2 e = true → Good X C W e (ev Φ G c2)) : Good X C W e (ev Φ G (.tupS c1 c2)) := by
  rw [chk.eq_def] at h
  dsimp only at h
  split at h
  · rename_i x y sp k p
    obtain ⟨h, h4⟩ := and2 h
    obtain ⟨h, h3⟩ := and2 h
    obtain ⟨h1, h2⟩ := and2 h
    refine good_plain ((pe_tup (pa_cons (i1 x h3).1 (StX.pa_star (i2 y h4).1 pa_nil) (star_of h1))).mono fun σ H Q q => ?_) rfl
    obtain ⟨ρ, Γ, S, st, rg, q⟩ := q
    rw [ev] at q
    refine tDE_bind st rg q fun d S1 v H1 n1 s1 r1 rg1 q1 => ?_
    refine tDE_bind s1 rg1 q1 fun e S2 w H2 n2 s2 r2 rg2 q2 => ?_
    have vr := r2.vw s2
    split at q2
    · rename_i ys hy
      rw [hy] at vr
      obtain ⟨b, xs, rfl, hb, ra⟩ := vr.tup
      split at q2
      · rename_i hc
        have rd := (r1.nx0 n2).d hc.1
        refine ⟨b, xs, rfl, .inl (by rw [a.hK]; exact hb.sq), ?_⟩
        refine ⟨by rw [List.append_nil, List.length_cons, ra.length, szL_eq]; exact hc.2, fun p hp => ?_⟩
        rw [List.append_nil]
        exact q2 _ _ (Nx.new hp) (s2.new hp) (.inl (.tup (.inl ⟨.inl upd_same, s2.free hp⟩) (.cons (rd.nx (Nx.new hp)) (ra.nx (Nx.new hp)))))
      · exact q2.elim
    · exact q2.elim
  · cases h
end
end EK

set_option Elab.async false
set_option linter.all false
set_option maxRecDepth 100000
set_option maxHeartbeats 4000000
namespace EK
open PySem L2 PySem.Spec PyProof.Rows
section
variable {X : Cx} {C : Ct} {Φ : Str → Option Fsem} {G : Str → Option D} {W : WX} {e : Expr} {f : Gam → Sto → R} {t : TE}
/-- a term is good wherever one stands -/
def Snd (C : Ct) (Φ : Str → Option Fsem) (G : Str → Option D) (c : CE) : Prop := ∀ (X : Cx) (W : WX) (e : Expr), At X C Φ G W → chk X.N X.env.scope c e = true → Good X C W e (ev Φ G c)
def tYesD : Gam → Sto → R := fun _ S => .ok (.bl true) S
theorem pts_ok {ifs : List Expr} {cond : CE} (a : At X C Φ G W) (sc : Snd C Φ G cond)
    (h : (match ifs with | [] => (match cond with | .con (.bl true) => true | _ => false) | [c] => notIf c && chk X.N X.env.scope cond c | _ => false) = true) : ∃ tt, PTs X ifs tt ∧ ∀ σ H Q, tDT C W (ev Φ G cond) σ H Q → tt σ H Q := by
  split at h
  · split at h
    · refine ⟨_, pts_nil, fun σ H Q q => ?_⟩
      obtain ⟨ρ, Γ, S, st, rg, q⟩ := q
      rw [ev] at q
      obtain ⟨b, e, q⟩ := q
      cases e
      exact q H (Nx.refl _ _) st
    · cases h
  · obtain ⟨h1, h2⟩ := and2 h
    exact ⟨_, pts_one ((sc X W _ a h2).2.1 h1), fun _ _ _ q => q⟩
  · cases h
theorem g_lc (a : At X C Φ G W) {elt cond : CE} {tg : Tg} {ik : Ik} {ia : List CE} {own : List (Str × Nat)} (h : chk X.N X.env.scope (.lc elt tg ik ia cond own) e = true) (s1 : Snd C Φ G elt) (s2 : Snd C Φ G cond) (s3 : ∀ c ∈ ia, Snd C Φ G c) :
    ∃ el tgt iter ifs scope p wi tt te, e = .ListComp el [⟨tgt, iter, ifs, 0⟩] scope p ∧ plainB iter = true ∧ PI X tgt iter wi ∧ BlkOk X.N X.env.scope scope own ∧
      (∀ (s : Shared) (H : Hp) (Ca : Addr) (cl : List (Str × Addr)) (fp : List Addr), PG (X.blk s H scope (compEnvC scope cl Ca X.env) fp) tgt (gT C.K tg)) ∧ (∀ (s : Shared) (H : Hp) (Ca : Addr) (cl : List (Str × Addr)) (fp : List Addr), PTs (X.blk s H scope (compEnvC scope cl Ca X.env) fp) ifs tt) ∧
      (∀ (s : Shared) (H : Hp) (Ca : Addr) (cl : List (Str × Addr)) (fp : List Addr), PE (X.blk s H scope (compEnvC scope cl Ca X.env) fp) el te) ∧
      ∀ σ H Q, tDE C W (ev Φ G (.lc elt tg ik ia cond own)) σ H Q → tLc wi (gT C.K tg) tt te (own.map (·.2)) σ H Q := by
  rw [chk.eq_def] at h
  dsimp only at h
  split at h
  · rename_i el tgt iter ifs scope p
    obtain ⟨h, h7⟩ := and2 h
    obtain ⟨h, h6⟩ := and2 h
    obtain ⟨h, h5⟩ := and2 h
    obtain ⟨h, h4⟩ := and2 h
    obtain ⟨h, h3⟩ := and2 h
    obtain ⟨h1, h2⟩ := and2 h
    have h7 : chkI X.N X.env.scope ik ia iter tgt = true := h7
    have hpi := pi_ok a h7 (fun c hc e' q => s3 c hc X W e' a q)
    -- the tests and the element are read alike in every block
    have htt : ∃ tt, (∀ (s : Shared) (H : Hp) (Ca : Addr) (cl : List (Str × Addr)) (fp : List Addr), PTs (X.blk s H scope (compEnvC scope cl Ca X.env) fp) ifs tt) ∧ ∀ σ H Q, tDT C (fun _ _ _ _ => False) (ev Φ G cond) σ H Q → tt σ H Q := by
      match ifs, h6 with
      | [], h6 =>
        refine ⟨tYes, fun _ _ _ _ _ => pts_nil, fun σ H Q q => ?_⟩
        dsimp only at h6
        split at h6
        · obtain ⟨ρ, Γ, S, st, rg, q⟩ := q
          rw [ev] at q
          obtain ⟨b, e, q⟩ := q
          cases e
          exact q H (Nx.refl _ _) st
        · cases h6
      | [c], h6 =>
        obtain ⟨k1, k2⟩ := and2 h6
        exact ⟨_, fun s H Ca cl fp => pts_one ((s2 _ _ c (a.blk s H scope (compEnvC scope cl Ca X.env) fp) k2).2.1 k1), fun _ _ _ q => q⟩
      | _ :: _ :: _, h6 => cases h6
    obtain ⟨tt, ht1, ht2⟩ := htt
    refine ⟨el, tgt, iter, ifs, scope, p, _, tt, tDE C (fun _ _ _ _ => False) (ev Φ G elt), rfl, h1, hpi, blkOk_by h2, fun s H Ca cl fp => tg_ok (X := X.blk s H scope (compEnvC scope cl Ca X.env) fp) a.hK a.calm a.nd (fun z => by cases z) h3, ht1, fun s H Ca cl fp => (s1 _ _ el (a.blk s H scope (compEnvC scope cl Ca X.env) fp) h5).1, fun σ H Q q => ?_⟩
    obtain ⟨ρ, Γ, S, st, rg, q⟩ := q
    rw [ev] at q
    refine ⟨ρ, Γ, S, st, rg, ?_⟩
    cases e1 : evs Φ G ia Γ S with
    | bad => rw [e1] at q; exact q
    | ex c d S' => rw [e1] at q; exact q
    | ok ds S1 =>
      rw [e1] at q
      have q : Fin C W ρ σ H Q (match itD ik ds with | some items => if items.length ≤ szL then lcLoop (ev Φ G cond) (ev Φ G elt) tg (wipeG Γ (own.map (·.2))) items [] S1 else .bad | none => .bad) := q
      cases e2 : itD ik ds with
      | none => rw [e2] at q; exact q.elim
      | some items =>
        rw [e2] at q
        dsimp only at q
        split at q
        · rename_i hz
          refine ⟨items, e2, fun J H1 n1 st1 hj Dl hD => ?_⟩
          refine lc_rec st1 (rg.nx0 n1) hj hD hz (fun i hi => ?_) ht2 (fun _ _ _ q => q) (Fin.nx n1 q)
          have := List.all_eq_true.mp h4 i hi
          simpa using this
        · exact q.elim
  · cases h
theorem g_lcE (a : At X C Φ G W) {elt cond : CE} {tg : Tg} {ik : Ik} {ia : List CE} {own : List (Str × Nat)} (h : chk X.N X.env.scope (.lc elt tg ik ia cond own) e = true) (s1 : Snd C Φ G elt) (s2 : Snd C Φ G cond) (s3 : ∀ c ∈ ia, Snd C Φ G c) :
    Good X C W e (ev Φ G (.lc elt tg ik ia cond own)) := by
  obtain ⟨el, tgt, iter, ifs, scope, p, wi, tt, te, rfl, h1, hpi, hb, hg, ht, he, imp⟩ := g_lc a h s1 s2 s3
  exact good_plain ((pe_lc a.calm a.nd hpi hb hg ht he (folded_of h1)).mono imp) rfl
/-! ### the dict display -/
def dtr (C : Ct) (W : WX) (Φ : Str → Option Fsem) (G : Str → Option D) : List Key → List CE → List (TE × TE)
  | k :: ks, c :: cs => (tC (kV k), tDE C W (ev Φ G c)) :: dtr C W Φ G ks cs
  | _, _ => []
theorem key_pe {k : Key} {c : Const} {j : Nat} {p : Pos} (h : keyB k c = true) : PE X (.Constant c j p) (tC (kV k)) := by
  unfold keyB at h
  split at h
  · rw [decide_eq_true_iff] at h; subst h; exact pe_int
  · rw [decide_eq_true_iff] at h; subst h; exact pe_str
  · cases h
theorem pps_of (a : At X C Φ G W) {p : Pos} : ∀ {ks : List Key} {cs : List CE} {keys : List (Option Expr)} {vals : List Expr}, keysB ks keys = true → chks X.N X.env.scope cs vals = true → keys.length = vals.length → (∀ c ∈ cs, Snd C Φ G c) →
    PPs X p keys vals (dtr C W Φ G ks cs) ∧ keys.all (·.isSome) = true ∧ ks.length = keys.length
  | [], cs, keys, vals, h1, h2, hl, s => by
    unfold keysB at h1
    split at h1
    · have : vals = [] := List.eq_nil_of_length_eq_zero hl.symm
      subst this
      have := chks_len h2
      have : cs = [] := List.eq_nil_of_length_eq_zero this
      subst this
      exact ⟨pps_nil, rfl, rfl⟩
    · rename_i z; cases z
    · cases h1
  | k :: ks, cs, keys, vals, h1, h2, hl, s => by
    unfold keysB at h1
    split at h1
    · rename_i z; cases z
    · rename_i k' ks' c j q r z
      cases z
      obtain ⟨h1, h3⟩ := and2 h1
      match vals, hl with
      | v :: vals, hl =>
        obtain ⟨c0, cs', rfl⟩ := chks_head h2
        obtain ⟨_, h5, h6⟩ := chks_tail h2
        obtain ⟨i1, i2, i3⟩ := pps_of a (p := p) h3 h6 (by simpa using hl) fun c hc => s c (List.mem_cons_of_mem _ hc)
        exact ⟨pps_cons (key_pe h1) (s c0 List.mem_cons_self X W v a h5).1 i1, by rw [List.all_cons, i2]; rfl, by rw [List.length_cons, List.length_cons, i3]⟩
    · cases h1
theorem pairs_imp : ∀ {ks : List Key} {cs : List CE} {Γ : Gam} {S : Sto} {H : Hp} {ρ : Rg} {σ : L2.St} {Q : List V → Hp → Prop}, ks.length = cs.length → StOk C H ρ S → RepG C H ρ σ Γ → FinA C W ρ σ H Q (evs Φ G cs Γ S) →
    tPairs (dtr C W Φ G ks cs) σ H fun ps H2 => ∃ ws, ws.length = ks.length ∧ ps = (ks.zip ws).map (fun kv => (kV kv.1, kv.2)) ∧ Q ws H2
  | [], [], Γ, S, H, ρ, σ, Q, _, st, rg, q => by
    rw [evs] at q
    exact ⟨[], rfl, rfl, q [] H (Nx.refl _ _) st .nil⟩
  | k :: ks, c :: cs, Γ, S, H, ρ, σ, Q, hl, st, rg, q => by
    rw [evs] at q
    show tDE C W (ev Φ G c) σ H _
    refine ⟨ρ, Γ, S, st, rg, ?_⟩
    cases e1 : ev Φ G c Γ S with
    | bad => rw [e1] at q; exact q
    | ex c d S' => rw [e1] at q; exact q
    | ok d S1 =>
      rw [e1] at q
      dsimp only at q
      intro v H1 n1 s1 r1
      have q' : FinA C W ρ σ H1 (fun ws H2 => Q (v :: ws) H2) (evs Φ G cs Γ S1) := by
        cases e2 : evs Φ G cs Γ S1 with
        | bad => rw [e2] at q; exact q
        | ex c d S' => rw [e2] at q; exact fun Ca dd v H2 e n s q' nd r => q Ca dd v H2 e (n1.trans n) s q' nd r
        | ok ds S2 => rw [e2] at q; exact fun vs H2 n2 s2 r2 => q (v :: vs) H2 (n1.trans n2) s2 (.cons (r1.nx0 n2) r2)
      have ih := pairs_imp (ks := ks) (cs := cs) (by simpa using hl) s1 (rg.nx0 n1) q'
      have mono : ∀ (trs : List (TE × TE)) (σ : L2.St) (H : Hp) (P P' : List (V × V) → Hp → Prop), (∀ ps H, P ps H → P' ps H) → True := fun _ _ _ _ _ _ => trivial
      exact tPairs_mono ih fun ps H2 ⟨ws, h1, h2, h3⟩ => ⟨v :: ws, by rw [List.length_cons, List.length_cons, h1], by rw [h2]; rfl, h3⟩
  | [], _ :: _, _, _, _, _, _, _, hl, _, _, _ => by cases hl
  | _ :: _, [], _, _, _, _, _, _, hl, _, _, _ => by cases hl
where tPairs_mono : ∀ {ks : List Key} {cs : List CE} {σ : L2.St} {H : Hp} {P P' : List (V × V) → Hp → Prop}, tPairs (dtr C W Φ G ks cs) σ H P → (∀ ps H, P ps H → P' ps H) → tPairs (dtr C W Φ G ks cs) σ H P'
  | k :: ks, c :: cs, σ, H, P, P', h, i => by
    obtain ⟨ρ, Γ, S, st, rg, h⟩ := h
    refine ⟨ρ, Γ, S, st, rg, ?_⟩
    cases e : ev Φ G c Γ S with
    | bad => rw [e] at h; exact h
    | ex c d S' => rw [e] at h; exact h
    | ok d S1 =>
      rw [e] at h
      exact fun v H1 n s r => tPairs_mono (ks := ks) (cs := cs) (h v H1 n s r) fun ps H2 q => i _ _ q
  | [], cs, σ, H, P, P', h, i => by cases cs <;> exact i _ _ h
  | _ :: _, [], σ, H, P, P', h, i => i _ _ h

theorem putK_new {kvs : List (Key × V)} {k : Key} {v : V} (h : k ∉ kvs.map (·.1)) : putK kvs k v = kvs ++ [(k, v)] := by
  unfold putK
  rw [if_neg]
  intro z
  rw [List.any_eq_true] at z
  obtain ⟨kv, h1, h2⟩ := z
  rw [decide_eq_true_iff] at h2
  exact h (List.mem_map.mpr ⟨kv, h1, h2⟩)
theorem merge_nodup : ∀ (more kvs : List (Key × V)), ((kvs ++ more).map (·.1)).Nodup → mergeK kvs more = kvs ++ more
  | [], kvs, _ => by rw [List.append_nil]; rfl
  | p :: r, kvs, h => by
    show mergeK (putK kvs p.1 p.2) r = _
    have h1 : p.1 ∉ kvs.map (·.1) := by
      rw [List.map_append, List.nodup_append] at h
      intro z
      exact h.2.2 p.1 z p.1 (by simp) rfl
    rw [putK_new h1, merge_nodup r _ (by rw [List.append_assoc]; exact h), List.append_assoc]
    rfl
theorem zip_fst : ∀ {α β : Type} (ks : List α) (ws : List β), ws.length = ks.length → (ks.zip ws).map (·.1) = ks ∧ (ks.zip ws).map (·.2) = ws
  | _, _, [], [], _ => ⟨rfl, rfl⟩
  | _, _, k :: ks, w :: ws, h => by
    obtain ⟨h1, h2⟩ := zip_fst ks ws (by simpa using h)
    exact ⟨by rw [List.zip_cons_cons, List.map_cons, h1], by rw [List.zip_cons_cons, List.map_cons, h2]⟩
  | _, _, [], _ :: _, h => by cases h
  | _, _, _ :: _, [], h => by cases h
theorem g_dic (a : At X C Φ G W) {ks : List Key} {vs : List CE} (h : chk X.N X.env.scope (.dic ks vs) e = true) (s : ∀ c ∈ vs, Snd C Φ G c) : Good X C W e (ev Φ G (.dic ks vs)) := by
  rw [chk.eq_def] at h
  dsimp only at h
  split at h
  · rename_i keys vals p
    obtain ⟨h, h3⟩ := and2 h
    obtain ⟨h, h2⟩ := and2 h
    obtain ⟨h1, hl⟩ := and2 h
    rw [decide_eq_true_iff] at h1 hl
    have hcl := chks_len h3
    · obtain ⟨i1, i2, i3⟩ := pps_of a (p := p) h2 h3 hl.1 s
      refine good_plain ((pe_dispP i1 i2 hl.1 (fun z => h1 (by rw [z]; rfl)) hl.2).mono fun σ H Q q => ?_) rfl
      obtain ⟨ρ, Γ, S, st, rg, q⟩ := q
      rw [ev] at q
      have key : FinA C W ρ σ H (fun ws H2 => ∀ p, H2 p = none → ws.length = ks.length → Q (.ref p) (upd H2 p (.dK (mergeK [] (ks.zip ws))))) (evs Φ G vs Γ S) := by
        cases e1 : evs Φ G vs Γ S with
        | bad => rw [e1] at q; exact q
        | ex c d S' => rw [e1] at q; exact q
        | ok ds S1 =>
          rw [e1] at q
          have q : Fin C W ρ σ H Q (if ds.all noLoc = true ∧ ds.length = ks.length ∧ ks.length ≤ 15 ∧ ks.Nodup then .ok (.dic (ks.zip ds)) S1 else .bad) := q
          split at q
          · rename_i hc
            intro ws H2 n2 s2 r2 p hp hw
            have ra := paired_d r2 hc.1
            obtain ⟨z1, z2⟩ := zip_fst ks ws hw
            obtain ⟨z3, z4⟩ := zip_fst ks ds hc.2.1
            rw [merge_nodup _ _ (by rw [List.nil_append, z1]; exact hc.2.2.2), List.nil_append]
            refine q (.ref p) _ (n2.trans (Nx.new hp)) (s2.new hp) (.inl (.dic upd_same (s2.free hp) (by rw [z1, z3]) ?_))
            rw [z2, z4]
            exact ra.nx (Nx.new hp)
          · exact q.elim
      refine pairs_imp.tPairs_mono (pairs_imp (ks := ks) (cs := vs) (by omega) st rg key) fun ps H2 ⟨ws, w1, w2, w3⟩ => ⟨ks.zip ws, w2, ?_, fun p hp => w3 p hp w1⟩
      rw [List.length_zip]; omega
  · cases h

mutual
/-- THE THEOREM for expressions: a term that passes the check is what the expression does -/
theorem sound : ∀ c : CE, Snd C Φ G c
  | .var i => fun X W e a h => g_var a h
  | .con d => fun X W e a h => g_con a h
  | .glob x => fun X W e a h => g_glob a h
  | .bin op c1 c2 => fun X W e a h => g_bin a h (fun e q => sound c1 X W e a q) (fun e q => sound c2 X W e a q)
  | .neg c1 => fun X W e a h => g_neg a h (fun e q => sound c1 X W e a q)
  | .not c1 => fun X W e a h => g_not a h (fun e q => sound c1 X W e a q)
  | .cmp op c1 c2 => fun X W e a h => g_cmp a h (fun e q => sound c1 X W e a q) (fun e q => sound c2 X W e a q)
  | .chain o1 o2 c1 c2 c3 => fun X W e a h => g_chain a h (fun e q => sound c1 X W e a q) (fun e q => sound c2 X W e a q) (fun e q => sound c3 X W e a q)
  | .and c1 c2 => fun X W e a h => g_and a h (fun e q => sound c1 X W e a q) (fun e q => sound c2 X W e a q)
  | .or c1 c2 => fun X W e a h => g_or a h (fun e q => sound c1 X W e a q) (fun e q => sound c2 X W e a q)
  | .ite c1 c2 c3 => fun X W e a h => g_ite a h (fun e q => sound c1 X W e a q) (fun e q => sound c2 X W e a q) (fun e q => sound c3 X W e a q)
  | .call f args => fun X W e a h => g_call a h (AllGood.args fun c hc e q => sounds args c hc X W e a q)
  | .blt f args => fun X W e a h => g_blt a h (AllGood.args fun c hc e q => sounds args c hc X W e a q)
  | .isi c1 T => fun X W e a h => g_isi a h (fun e q => sound c1 X W e a q)
  | .mth m c1 c2 => fun X W e a h => g_mth a h (fun e q => sound c1 X W e a q) (fun e q => sound c2 X W e a q)
  | .dget c1 c2 c3 => fun X W e a h => g_dget a h (fun e q => sound c1 X W e a q) (fun e q => sound c2 X W e a q) (fun e q => sound c3 X W e a q)
  | .idx c1 c2 => fun X W e a h => g_idx a h (fun e q => sound c1 X W e a q) (fun e q => sound c2 X W e a q)
  | .sl c1 c2 c3 => fun X W e a h => g_sl a h (fun e q => sound c1 X W e a q) (fun e q => sound c2 X W e a q) (fun e q => sound c3 X W e a q)
  | .rev c1 => fun X W e a h => g_rev a h (fun e q => sound c1 X W e a q)
  | .tup es => fun X W e a h => g_tup a h (AllGood.args fun c hc e q => sounds es c hc X W e a q)
  | .lst es => fun X W e a h => g_lst a h (AllGood.args fun c hc e q => sounds es c hc X W e a q)
  | .dic ks vs => fun X W e a h => g_dic a h (sounds vs)
  | .lc elt tg ik ia cond own => fun X W e a h => g_lcE a h (sound elt) (sound cond) (sounds ia)
  | .fnv x => fun X W e a h => g_fnv a h
  | .callk f args => fun X W e a h => g_callk a h fun c hc e q => sounds args c hc X W e a q
  | .callv i args => fun X W e a h => g_callv a h (AllGood.args fun c hc e q => sounds args c hc X W e a q)
  | .tupS c1 c2 => fun X W e a h => g_tupS a h (fun e q => sound c1 X W e a q) (fun e q => sound c2 X W e a q)
theorem sounds : ∀ cs : List CE, ∀ c ∈ cs, Snd C Φ G c
  | [], c, h => by cases h
  | c0 :: cs, c, h => by
    rcases List.mem_cons.mp h with h | h
    · rw [h]; exact sound c0
    · exact sounds cs c h
end
end
end EK

set_option Elab.async false
set_option linter.all false
set_option maxRecDepth 100000
set_option maxHeartbeats 4000000
namespace EK
open PySem L2 PySem.Spec PyProof.Rows

/-! ### statements -/
/-- expressions that make a new object -/
inductive FE where
  | lst (es : List CE) | rep (es : List CE) (n : CE) | cat (a b : CE) | dnew | dic (ks : List Key) (vs : List CE) | call (f : Str) (args : List CE) | dic1 (k v : CE)
inductive CS where
  | set (tg : Tg) (e : CE)
  | par (is : List Nat) (es : List (CE ⊕ FE))
  | own (i : Nat) (e : FE)
  | app (i : Nat) (e : CE)
  | putL (i : Nat) (k e : CE)
  | putD (i : Nat) (k e : CE)
  | exp (e : CE)
  | ret (e : CE)
  | retF (e : FE)
  | ite (c : CE) (a b : List CS)
  | loop (tg : Tg) (ik : Ik) (ia : List CE) (body : List CS)
  | while (c : CE) (body : List CS)
  | never | pass
  | frz (i : Nat)
  | tryR (x : Str) (body : List CS)
inductive SR where
  | next (Γ : Gam) (S : Sto) | ret (d : D) (S : Sto) (fr : Bool) | ex (c : Str) (d : D) (Γ : Gam) (S : Sto) | bad
def R.go (Γ : Gam) : R → (D → Sto → SR) → SR
  | .ok d S, k => k d S
  | .ex c d S, _ => .ex c d Γ S
  | .bad, _ => .bad
def RA.go (Γ : Gam) : RA → (List D → Sto → SR) → SR
  | .ok d S, k => k d S
  | .ex c d S, _ => .ex c d Γ S
  | .bad, _ => .bad
def SR.then : SR → (Gam → Sto → SR) → SR
  | .next Γ S, k => k Γ S
  | .ret d S fr, _ => .ret d S fr
  | .ex c d Γ S, _ => .ex c d Γ S
  | .bad, _ => .bad
def toO : D → Option O
  | .lst ds => some (.lst ds)
  | .dic es => some (.dic es)
  | _ => none
def ofO : O → D
  | .lst ds => .lst ds
  | .dic es => .dic es
def putKD (es : List (Key × D)) (k : Key) (d : D) : List (Key × D) :=
  if (es.any fun kv => decide (kv.1 = k)) = true then es.map (fun kv => if kv.1 = k then (kv.1, d) else kv) else es ++ [(k, d)]
/-- all slots that hold this object of the store hold its data from now on -/
def thaw (k : Nat) (d : D) : Gam → Gam := List.map fun o => match o with
  | some (.loc j) => if j = k then some d else some (.loc j)
  | o => o
def asOwn (Γ : Gam) (S : Sto) (i : Nat) (d : D) : Option (Gam × Sto) := match toO d with
  | some o => some (Γ.set i (some (.loc S.length)), S ++ [o])
  | none => none
def loopN (body : Gam → Sto → SR) (tg : Tg) : List D → Gam → Sto → SR
  | [], Γ, S => .next Γ S
  | x :: xs, Γ, S => match setTg tg x Γ with
    | none => .bad
    | some Γ' => (body Γ' S).then fun Γ2 S2 => loopN body tg xs Γ2 S2
def whileN (cond : Gam → Sto → R) (body : Gam → Sto → SR) : Nat → Gam → Sto → SR
  | 0, _, _ => .bad
  | n + 1, Γ, S => (cond Γ S).go Γ fun d S1 => match d with
    | .bl true => (body Γ S1).then fun Γ2 S2 => whileN cond body n Γ2 S2
    | .bl false => .next Γ S1
    | _ => .bad
section
variable (Φ Φf : Str → Option Fsem) (G : Str → Option D)
@[simp] def evF : FE → Gam → Sto → R
  | .lst es, Γ, S => ev Φ G (.lst es) Γ S
  | .rep es n, Γ, S => (ev Φ G (.lst es) Γ S).bind fun d S1 => (ev Φ G n Γ S1).bind fun e S2 => match d, e with
    | .lst ds, .int k => if in62 k = true ∧ ds.length * k.toNat ≤ szL then .ok (.lst (List.replicate k.toNat ds).flatten) S2 else .bad
    | _, _ => .bad
  | .cat a b, Γ, S => (ev Φ G a Γ S).bind fun d S1 => (ev Φ G b Γ S1).bind fun e S2 => match d, e with
    | .lst xs, .lst ys => if xs.length + ys.length ≤ szL then .ok (.lst (xs ++ ys)) S2 else .bad
    | _, _ => .bad
  | .dnew, _, S => .ok (.dic []) S
  | .dic ks vs, Γ, S => ev Φ G (.dic ks vs) Γ S
  | .dic1 k v, Γ, S => (ev Φ G k Γ S).bind fun a S1 => (ev Φ G v Γ S1).bind fun d S2 => match keyD a with
    | some q => if noLoc d = true then .ok (.dic [(q, d)]) S2 else .bad
    | none => .bad
  | .call f args, Γ, S => match Φf f with
    | some F => (evs Φ G args Γ S).bind F
    | none => .bad
@[simp] def parS : List Nat → List (CE ⊕ FE) → Gam → Gam → Sto → SR
  | [], [], _, Γ', S => .next Γ' S
  | i :: is, .inl c :: es, Γ, Γ', S => (ev Φ G c Γ S).go Γ fun d S1 => parS is es Γ (Γ'.set i (some d)) S1
  | i :: is, .inr c :: es, Γ, Γ', S => (evF Φ Φf G c Γ S).go Γ fun d S1 => match asOwn Γ' S1 i d with
    | some (Γ2, S2) => parS is es Γ Γ2 S2
    | none => .bad
  | _, _, _, _, _ => .bad
variable (fuel n0 : Nat)
mutual
@[simp] def exS : CS → Gam → Sto → SR
  | .set tg e, Γ, S => (ev Φ G e Γ S).go Γ fun d S1 => match setTg tg d Γ with
    | some Γ' => .next Γ' S1
    | none => .bad
  | .par is es, Γ, S => parS Φ Φf G is es Γ Γ S
  | .own i e, Γ, S => (evF Φ Φf G e Γ S).go Γ fun d S1 => match asOwn Γ S1 i d with
    | some (Γ2, S2) => .next Γ2 S2
    | none => .bad
  | .app i e, Γ, S => match Γ[i]? with
    | some (some (.loc k)) => match S[k]? with
      | some (.lst _) => (ev Φ G e Γ S).go Γ fun d S1 => match S1[k]? with
        | some (.lst ds) => if noLoc d = true ∧ ds.length < szL then .next Γ (S1.set k (.lst (ds ++ [d]))) else .bad
        | _ => .bad
      | _ => .bad
    | _ => .bad
  | .putL i j e, Γ, S => (ev Φ G e Γ S).go Γ fun d S1 => match Γ[i]? with
    | some (some (.loc k)) => (ev Φ G j Γ S1).go Γ fun x S2 => match S2[k]?, x with
      | some (.lst ds), .int z => match ixN ds.length z with
        | some m => if noLoc d = true then .next Γ (S2.set k (.lst (ds.set m d))) else .bad
        | none => .bad
      | _, _ => .bad
    | _ => .bad
  | .putD i j e, Γ, S => (ev Φ G e Γ S).go Γ fun d S1 => match Γ[i]? with
    | some (some (.loc k)) => (ev Φ G j Γ S1).go Γ fun x S2 => match S2[k]?, keyD x with
      | some (.dic es), some q => if noLoc d = true ∧ es.length < szL then .next Γ (S2.set k (.dic (putKD es q d))) else .bad
      | _, _ => .bad
    | _ => .bad
  | .exp e, Γ, S => (ev Φ G e Γ S).go Γ fun _ S1 => .next Γ S1
  | .ret e, Γ, S => (ev Φ G e Γ S).go Γ fun d S1 => .ret d S1 false
  | .retF e, Γ, S => (evF Φ Φf G e Γ S).go Γ fun d S1 => .ret d S1 true
  | .ite c a b, Γ, S => (ev Φ G c Γ S).go Γ fun d S1 => match d with
    | .bl true => exSs a Γ S1
    | .bl false => exSs b Γ S1
    | _ => .bad
  | .loop tg ik ia body, Γ, S => (evs Φ G ia Γ S).go Γ fun ds S1 => match itD ik ds with
    | some items => loopN (exSs body) tg items Γ S1
    | none => .bad
  | .while c body, Γ, S => whileN (ev Φ G c) (exSs body) fuel Γ S
  | .never, _, _ => .bad
  | .pass, Γ, S => .next Γ S
  | .tryR x body, Γ, S => match G x with
    | some (.fn _) => match exSs body Γ S with
      | .next Γ' S' => .next Γ' S'
      | .ret d S' fr => .ret d S' fr
      | _ => .bad
    | _ => .bad
  | .frz i, Γ, S => match Γ[i]? with
    | some (some (.loc k)) => if k + 1 = S.length ∧ n0 ≤ k then match S[k]? with
      | some o => .next (thaw k (ofO o) Γ) (S.take k)
      | none => .bad
      else .bad
    | _ => .bad
@[simp] def exSs : List CS → Gam → Sto → SR
  | [], Γ, S => .next Γ S
  | c :: cs, Γ, S => (exS c Γ S).then fun Γ' S' => exSs cs Γ' S'
end
end
def stB : Expr → Bool
  | .Starred .. => true
  | _ => false
def nmB (sc : Scope) (line : Nat) : Expr → Option Str
  | .Name id pos => if (sc.names.lookup id == some .local && pos.line == line) = true then some id else none
  | _ => none
def nms (sc : Scope) (ts : List Expr) : List Str := ts.filterMap (nmB sc ((ts.head?.map (·.pos.line)).getD 0))
/-- the names that are stored at once, if they are -/
def swp (ts vs : List Expr) (sc : Scope) : Option (Option (List Str)) :=
  if (!(ts.length == 2 || ts.length == 3) || vs.length != ts.length) = true then some none
  else if vs.any stB = true then some none
  else if ((nms sc ts).length != ts.length || (nms sc ts).eraseDups.length != (nms sc ts).length) = true then some none
    else if vs.all (foldedForSure 8) = true then some none
    else if vs.all (constantsAlone 8) = true then none
    else some (some (nms sc ts))
theorem swp_ok {ts vs : List Expr} {env : Env} {k k' : Nat} {p p' : Pos} {r : Option (List Str)} (hk : env.scope.kind = .function) (h : swp ts vs env.scope = some r) : swappedStores [.Tuple ts k p] (.Tuple vs k' p') env = pure r := by
  have hb : (env.blockKind != .function) = false := by
    unfold Env.blockKind
    rw [hk]; rfl
  unfold swappedStores
  dsimp only
  rw [hb, Bool.or_false]
  show (if (!(ts.length == 2 || ts.length == 3) || vs.length != ts.length) = true then pure none else if vs.any stB = true then pure none else if ((nms env.scope ts).length != ts.length || (nms env.scope ts).eraseDups.length != (nms env.scope ts).length) = true then pure none
    else if vs.all (foldedForSure 8) = true then pure none else if vs.all (constantsAlone 8) = true then (do let _ ← (unsupported "assign.tuple-of-constant-expressions:order-of-the-stores" : Sem Unit); pure (some (nms env.scope ts))) else pure (some (nms env.scope ts))) = (pure r : Sem (Option (List Str)))
  unfold swp at h
  split at h
  · rename_i h1; cases h; rw [if_pos h1]
  · rename_i h1
    rw [if_neg h1]
    split at h
    · rename_i h2; cases h; rw [if_pos h2]
    · rename_i h2
      rw [if_neg h2]
      split at h
      · rename_i h3; cases h; rw [if_pos h3]
      · rename_i h3
        rw [if_neg h3]
        split at h
        · rename_i h4; cases h; rw [if_pos h4]
        · rename_i h4
          rw [if_neg h4]
          split at h
          · cases h
          · rename_i h5; cases h; rw [if_neg h5]
end EK

set_option Elab.async false
set_option linter.all false
set_option maxRecDepth 100000
set_option maxHeartbeats 4000000
namespace EK
open PySem L2 PySem.Spec PyProof.Rows
/-! ### the check of statements -/
def noComp : Expr → Bool
  | .ListComp .. => false
  | .SetComp .. => false
  | .DictComp .. => false
  | _ => true
/-- the value of a comprehension goes to this name at once -/
def swC (v t : Expr) (sc : Scope) : Bool := match v, t with
  | .ListComp _ _ s pos, .Name t' pos' => (sc.names.lookup t' == some .local) && pos'.line == pos.line && !(s.names.any fun (n, k) => n == t' && (k == .local || k == .cell))
  | _, _ => false
def setB : Expr → Bool
  | .SetComp .. => false
  | .DictComp .. => false
  | _ => true
section
variable (N : List Str)
def chkF (sc : Scope) : FE → Expr → Bool
  | .lst es, e => match e with
    | .List xs _ => chks N sc es xs
    | _ => false
  | .rep es n, e => match e with
    | .BinOp (.List xs _) .Mult y _ => chks N sc es xs && chk N sc n y
    | _ => false
  | .cat a b, e => match e with
    | .BinOp x .Add y _ => chk N sc a x && chk N sc b y
    | _ => false
  | .dnew, e => match e with
    | .Dict [] [] _ => true
    | _ => false
  | .dic ks vs, e => chk N sc (.dic ks vs) e
  | .dic1 k v, e => match e with
    | .Dict [some x] [y] _ => chk N sc k x && chk N sc v y
    | _ => false
  | .call f args, e => match e with
    | .Call (.Name x _) (a :: as) [] _ => decide (x = f) && glB sc x && chks N sc args (a :: as)
    | _ => false
def chkEs (sc : Scope) : List (CE ⊕ FE) → List Expr → Bool
  | [], [] => true
  | .inl c :: cs, e :: es => plainB e && chk N sc c e && chkEs sc cs es
  | .inr c :: cs, e :: es => plainB e && chkF N sc c e && chkEs sc cs es
  | _, _ => false
def parB (sc : Scope) : List Nat → List Expr → Bool
  | [], [] => true
  | i :: is, .Name x _ :: es => decide (N[i]? = some x) && decide (sc.names.lookup x = some .local) && parB sc is es
  | _, _ => false
mutual
def chkS (sc : Scope) : CS → Stmt → Bool
  | .set tg e, s => match s with
    | .Assign [t] v _ => setB v && tgB true sc N tg t && chk N sc e v && (match t with
      | .Tuple ts _ _ => (match v with | .Tuple vs _ _ => decide (swp ts vs sc = some none) | _ => true)
      | _ => true) && (!swC v t sc || (match e, tg with | .lc .., .one _ => true | _, _ => false))
    | _ => false
  | .par is es, s => match s with
    | .Assign [.Tuple ts _ _] (.Tuple vs _ _) _ => (match swp ts vs sc with | some (some _) => true | _ => false) && decide (is.Nodup) && decide (is.length = 2 ∨ is.length = 3) && parB N sc is ts && chkEs N sc es vs
    | _ => false
  | .own i e, s => match s with
    | .Assign [.Name x _] v _ => noComp v && decide (N[i]? = some x) && okLoc true sc x && chkF N sc e v
    | _ => false
  | .app i e, s => match s with
    | .Expr (.Call (.Attribute (.Name x _) n ap) [y] [] cp) _ => decide (n = ("append" : Str)) && varB sc N i x && plainB y && (ap.endLine == cp.line) && chk N sc e y
    | _ => false
  | .putL i k e, s => match s with
    | .Assign [.Subscript (.Name x _) j _] v _ => noComp v && varB sc N i x && plainB j && chk N sc k j && chk N sc e v
    | _ => false
  | .putD i k e, s => match s with
    | .Assign [.Subscript (.Name x _) j _] v _ => noComp v && varB sc N i x && plainB j && chk N sc k j && chk N sc e v
    | _ => false
  | .exp e, s => match s with
    | .Expr v _ => noComp v && chk N sc e v
    | _ => false
  | .ret e, s => match s with
    | .Return (some v) _ => chk N sc e v
    | _ => false
  | .retF e, s => match s with
    | .Return (some v) _ => chkF N sc e v
    | _ => false
  | .ite c a b, s => match s with
    | .If t as bs _ => notIf t && chk N sc c t && chkSs sc a as && chkSs sc b bs
    | _ => false
  | .loop tg ik ia body, s => match s with
    | .For t it b [] _ => plainB it && tgB true sc N tg t && chkI N sc ik ia it t && chkSs sc body b
    | _ => false
  | .while c body, s => match s with
    | .While t b [] _ => notIf t && chk N sc c t && chkSs sc body b
    | _ => false
  | .never, _ => true
  | .pass, s => match s with
    | .Pass _ => true
    | _ => false
  | .tryR x body, s => match s with
    | .Try b [.ExceptHandler (some (.Name y _)) none (_ :: _) _] [] [] _ => decide (y = x) && glB sc y && chkSs sc body b
    | _ => false
  | .frz _, _ => false
def chkSs (sc : Scope) : List CS → List Stmt → Bool
  | [], ss => ss.isEmpty
  | .frz _ :: cs, ss => chkSs sc cs ss
  | c :: cs, ss => match ss with
    | s :: ss => chkS sc c s && chkSs sc cs ss
    | [] => false
end
end
/-! ### readings of statements -/
structure Nxs (n0 : Nat) (H : Hp) (ρ : Rg) (H' : Hp) (ρ' : Rg) : Prop where
  nx : Nx H ρ H' ρ'
  sub : Sub ρ ρ' H
  ex : ρ'.ex = ρ.ex
  pre : ρ'.st.take n0 = ρ.st.take n0
  al : ∀ a, H a ≠ none → H' a ≠ none
theorem Nxs.refl (n0 : Nat) (H : Hp) (ρ : Rg) : Nxs n0 H ρ H ρ := ⟨Nx.refl H ρ, Sub.rfl, rfl, rfl, fun _ h => h⟩
theorem Nxs.trans {n0 : Nat} {H H' H'' : Hp} {ρ ρ' ρ'' : Rg} (a : Nxs n0 H ρ H' ρ') (b : Nxs n0 H' ρ' H'' ρ'') : Nxs n0 H ρ H'' ρ'' := by
  refine ⟨a.nx.trans b.nx a.sub, fun x hx => ?_, b.ex.trans a.ex, b.pre.trans a.pre, fun x h => b.al x (a.al x h)⟩
  rcases b.sub x hx with q | q
  · exact a.sub x q
  · by_cases h : x ∈ ρ.st
    · exact .inl h
    · right
      cases e : H x with
      | none => rfl
      | some o => rw [a.nx.kp x o e h] at q; cases q
theorem Nx.s {n0 : Nat} {C : Ct} {S : Sto} {H H' : Hp} {ρ : Rg} (n : Nx H ρ H' ρ) (s : StOk C H' ρ S) : Nxs n0 H ρ H' ρ := ⟨n, Sub.rfl, rfl, rfl, fun a h => by
  by_cases hp : a ∈ ρ.st
  · exact s.there (Rg.of_st hp)
  · cases e : H a with
    | none => exact absurd e h
    | some o => rw [n.kp a o e hp]; exact fun z => by cases z⟩
/-- v is a new object of which no one else knows -/
def New (C : Ct) (H H' : Hp) (ρ : Rg) (S : Sto) (v : V) (d : D) : Prop := ∃ p o, v = .ref p ∧ toO d = some o ∧ H p = none ∧ StOk C H' (ρ.keep p) S ∧ OAt C H' (ρ.keep p) p o
theorem fresh_of {C : Ct} {H H' : Hp} {ρ : Rg} {S : Sto} {p : Addr} (n : Nx H ρ H' ρ) (s : StOk C H' ρ S) (h : H' p = none) : H p = none := by
  cases e : H p with
  | none => rfl
  | some o =>
    by_cases hp : p ∈ ρ.st
    · exact absurd h (s.there (Rg.of_st hp))
    · rw [n.kp p o e hp] at h; cases h
theorem New.back {C : Ct} {H H' H'' : Hp} {ρ ρ' : Rg} {S S' : Sto} {v : V} {d : D} (n : Nx H ρ H' ρ) (s : StOk C H' ρ S) (h : New C H' H'' ρ' S' v d) : New C H H'' ρ' S' v d := by
  obtain ⟨p, o, e1, e2, e3, e4, e5⟩ := h
  exact ⟨p, o, e1, e2, fresh_of n s e3, e4, e5⟩
def FinS (C : Ct) (W : WX) (n0 : Nat) (En : Ends) (ρ : Rg) (H : Hp) : SR → Prop
  | .next Γ' S' => ∀ σ' H' ρ', Nxs n0 H ρ H' ρ' → StOk C H' ρ' S' → RepG C H' ρ' σ' Γ' → En.nx σ' H'
  | .ret d S' fr => ∀ v H' ρ', Nxs n0 H ρ H' ρ' → StOk C H' ρ' S' → Rep C H' ρ' v d → (fr = true → New C H H' ρ' S' v d) → En.rt v H'
  | .ex c d Γ' S' => ∀ (Ca dd : Addr) (v : V) (σ' : L2.St) (H' : Hp) (ρ' : Rg), C.mg c = some (.ref Ca) → Nxs n0 H ρ H' ρ' → StOk C H' ρ' S' → RepG C H' ρ' σ' Γ' → H' dd = some (.xd [(C.fld c, v)]) → dd ∉ ρ' → RepD C H' ρ' v d → W (.ref Ca) (some dd) σ' H'
  | .bad => False
def tDS (C : Ct) (W : WX) (n0 : Nat) (f : Gam → Sto → SR) : TS := fun En σ H => ∃ ρ Γ S, StOk C H ρ S ∧ RepG C H ρ σ Γ ∧ FinS C W n0 En ρ H (f Γ S)
section
variable {C : Ct} {W : WX} {H H' : Hp} {ρ ρ' : Rg} {σ : L2.St} {Γ : Gam} {S S' : Sto} {n0 : Nat} {En : Ends}
theorem Nxs.fresh {H2 : Hp} {ρ2 : Rg} {S2 : Sto} {v : V} {d : D} (n : Nxs n0 H ρ H' ρ') (h : New C H' H2 ρ2 S2 v d) : New C H H2 ρ2 S2 v d := by
  obtain ⟨p, o, e1, e2, e3, e4, e5⟩ := h
  refine ⟨p, o, e1, e2, ?_, e4, e5⟩
  cases z : H p with
  | none => rfl
  | some o => exact absurd e3 (n.al p (by rw [z]; exact fun w => by cases w))
theorem FinS.nxs (N : Nxs n0 H ρ H' ρ') : ∀ {r : SR}, FinS C W n0 En ρ H r → FinS C W n0 En ρ' H' r
  | .next _ _, h => fun σ' H2 ρ2 n s r => h σ' H2 ρ2 (N.trans n) s r
  | .ret _ _ _, h => fun v H2 ρ2 n s r fr => h v H2 ρ2 (N.trans n) s r fun z => N.fresh (fr z)
  | .ex _ _ _ _, h => fun Ca dd v σ' H2 ρ2 e n s rg q nd r => h Ca dd v σ' H2 ρ2 e (N.trans n) s rg q nd r
  | .bad, h => h
theorem FinS.nx (N : Nx H ρ H' ρ) (s : StOk C H' ρ S) {r : SR} (h : FinS C W n0 En ρ H r) : FinS C W n0 En ρ H' r := h.nxs (N.s s)
theorem tDE_go {f : Gam → Sto → R} {k : D → Sto → SR} {Q' : VK} (st : StOk C H ρ S) (rg : RepG C H ρ σ Γ) (h : FinS C W n0 En ρ H ((f Γ S).go Γ k))
    (hk : ∀ d S' v H', Nx H ρ H' ρ → StOk C H' ρ S' → Rep C H' ρ v d → RepG C H' ρ σ Γ → FinS C W n0 En ρ H' (k d S') → Q' v H') : tDE C W f σ H Q' := by
  refine ⟨ρ, Γ, S, st, rg, ?_⟩
  cases e : f Γ S with
  | ok d S' => rw [e] at h; exact fun v H' n s r => hk d S' v H' n s r (rg.nx0 n) (FinS.nx n s h)
  | ex c d S' => rw [e] at h; exact fun Ca dd v H' m n s q nd r => h Ca dd v σ H' ρ m (n.s s) s (rg.nx0 n) q nd r
  | bad => rw [e] at h; exact h
theorem tDT_go {f : Gam → Sto → R} {k : D → Sto → SR} {Q' : Bool → Hp → Prop} (st : StOk C H ρ S) (rg : RepG C H ρ σ Γ) (h : FinS C W n0 En ρ H ((f Γ S).go Γ k)) (hb : ∀ d S', k d S' ≠ .bad → ∃ b, d = .bl b)
    (hk : ∀ b S' H', Nx H ρ H' ρ → StOk C H' ρ S' → RepG C H' ρ σ Γ → FinS C W n0 En ρ H' (k (.bl b) S') → Q' b H') : tDT C W f σ H Q' := by
  refine ⟨ρ, Γ, S, st, rg, ?_⟩
  cases e : f Γ S with
  | ok d S' =>
    rw [e] at h
    obtain ⟨b, rfl⟩ := hb d S' (fun z => by have h : FinS C W n0 En ρ H (k d S') := h; rw [z] at h; exact h)
    exact ⟨b, rfl, fun H' n s => hk b S' H' n s (rg.nx0 n) (FinS.nx n s h)⟩
  | ex c d S' => rw [e] at h; exact fun Ca dd v H' m n s q nd r => h Ca dd v σ H' ρ m (n.s s) s (rg.nx0 n) q nd r
  | bad => rw [e] at h; exact h
end
end EK

set_option Elab.async false
set_option linter.all false
set_option maxRecDepth 100000
set_option maxHeartbeats 4000000
namespace EK
open PySem L2 PySem.Spec PyProof.Rows
/-- a def that hands back a new object -/
def FinN (C : Ct) (E : XK) (ρ : Rg) (H : Hp) (Q : VK) : R → Prop
  | .ok d S' => ∀ v H', Nx H ρ H' ρ → StOk C H' ρ S' → RepD C H' ρ v d → New C H H' ρ S' v d → Q v H'
  | .ex c d S' => ∀ (Ca dd : Addr) (v : V) (H' : Hp), C.mg c = some (.ref Ca) → Nx H ρ H' ρ → StOk C H' ρ S' → H' dd = some (.xd [(C.fld c, v)]) → dd ∉ ρ → RepD C H' ρ v d → E (.ref Ca) (some dd) H'
  | .bad => False
def spF (C : Ct) (F : Fsem) : Sp := fun vs H Q E => ∃ ds ρ S, StOk C H ρ S ∧ Paired (Rep C H ρ) vs ds ∧ FinN C E ρ H Q (F ds S)
structure AtS (X : Cx) (C : Ct) (Φ Φf : Str → Option Fsem) (G : Str → Option D) (W : WX) : Prop where
  at_ : At X C Φ G W
  fnsF : ∀ x F, Φf x = some F → ∃ (f : Addr) (fd : FuncData) (ps : List Str) (k : Nat), X.mg x = some (.ref f) ∧ PySem.W.keepIn X.K (.ref f) = true ∧ Binds X.K fd ps [] ∧
    FnG X.prog X.w X.K X.mg X.base (L2.CX X.prog X.w) k f fd ps (spF C F) ∧ Rm k X.A
  fn : ∀ x, X.fn x = true
  kind : X.env.scope.kind = .function
  po : PassesOwn (model X.prog X.w) X.A X.env X.xe
  hs : X.stack = X.env :: X.outer
  hf : X.env.frame = some X.env.locals
def FinF (C : Ct) (W : WX) (ρ : Rg) (σ : L2.St) (H : Hp) (Q : VK) : R → Prop := FinN C (fun c d H => W c d σ H) ρ H Q
def tDF (C : Ct) (W : WX) (f : Gam → Sto → R) : TE := fun σ H Q => ∃ ρ Γ S, StOk C H ρ S ∧ RepG C H ρ σ Γ ∧ FinF C W ρ σ H Q (f Γ S)
section
variable {X : Cx} {C : Ct} {Φ Φf : Str → Option Fsem} {G : Str → Option D} {W : WX} {e : Expr} {H H' : Hp} {ρ ρ' : Rg} {σ : L2.St} {Γ : Gam} {S S' : Sto} {n0 : Nat} {En : Ends}
theorem tDF_bind {f : Gam → Sto → R} {k : D → Sto → R} {Q Q' : VK} (st : StOk C H ρ S) (rg : RepG C H ρ σ Γ) (h : FinF C W ρ σ H Q ((f Γ S).bind k))
    (hk : ∀ d S' v H', Nx H ρ H' ρ → StOk C H' ρ S' → Rep C H' ρ v d → RepG C H' ρ σ Γ → FinF C W ρ σ H Q (k d S') → Q' v H') : tDE C W f σ H Q' := by
  refine ⟨ρ, Γ, S, st, rg, ?_⟩
  cases e : f Γ S with
  | ok d S' => rw [e] at h; exact fun v H' n s r => hk d S' v H' n s r (rg.nx0 n) h
  | ex c d S' => rw [e] at h; exact h
  | bad => rw [e] at h; exact h
theorem tDFA_bind {f : Gam → Sto → RA} {k : List D → Sto → R} {Q : VK} {Q' : List V → Hp → Prop} (st : StOk C H ρ S) (rg : RepG C H ρ σ Γ) (h : FinF C W ρ σ H Q ((f Γ S).bind k))
    (hk : ∀ ds S' vs H', Nx H ρ H' ρ → StOk C H' ρ S' → Paired (Rep C H' ρ) vs ds → RepG C H' ρ σ Γ → FinF C W ρ σ H Q (k ds S') → Q' vs H') : tDA C W f σ H Q' := by
  refine ⟨ρ, Γ, S, st, rg, ?_⟩
  cases e : f Γ S with
  | ok d S' => rw [e] at h; exact fun v H' n s r => hk d S' v H' n s r (rg.nx0 n) h
  | ex c d S' => rw [e] at h; exact h
  | bad => rw [e] at h; exact h
theorem FinF.nx {Q : VK} (N : Nx H ρ H' ρ) (al : ∀ p, H' p = none → H p = none) : ∀ {r : R}, FinF C W ρ σ H Q r → FinF C W ρ σ H' Q r
  | .ok _ _, h => fun v H2 n s r ⟨p, o, e1, e2, e3, e4⟩ => h v H2 (N.trans n) s r ⟨p, o, e1, e2, al p e3, e4⟩
  | .ex _ _ _, h => fun Ca dd v H2 e n s q nd r => h Ca dd v H2 e (N.trans n) s q nd r
  | .bad, h => h
/-- a new list from the elements -/
theorem newL {Q : VK} {xs : List V} {ds : List D} {S1 : Sto} {H1 : Hp} (n : Nx H ρ H1 ρ) (s : StOk C H1 ρ S1) (ra : RepA C H1 ρ xs ds) (q : FinF C W ρ σ H Q (.ok (.lst ds) S1)) {p : Addr} (hp : H1 p = none) : Q (.ref p) (upd H1 p (.lst xs)) :=
  q (.ref p) _ (n.trans (Nx.new hp)) (s.new hp) (.lst ⟨upd_same, s.free hp⟩ (ra.nx (Nx.new hp))) ⟨p, _, rfl, rfl, fresh_of n s hp, s.keep hp, _, upd_same, ra.nx (Nx.keep hp)⟩
theorem g_F (a : AtS X C Φ Φf G W) {fe : FE} (h : chkF X.N X.env.scope fe e = true) : PE X e (tDF C W (evF Φ Φf G fe)) := by
  cases fe with
  | lst es =>
    unfold chkF at h
    dsimp only at h
    split at h
    · rename_i xs p
      refine (pe_lst (AllGood.args (fun c hc e q => sounds es c hc X W e a.at_ q) xs h)).mono fun σ H Q q => ?_
      obtain ⟨ρ, Γ, S, st, rg, q⟩ := q
      unfold evF at q
      dsimp only at q
      rw [ev] at q
      refine tDFA_bind st rg q fun ds S1 vs H1 n1 s1 r1 rg1 q1 => ?_
      split at q1
      · rename_i hc
        have ra := paired_d r1 hc.1
        exact ⟨by rw [ra.length, szL_eq]; exact hc.2, fun p hp => newL n1 s1 ra q1 hp⟩
      · exact q1.elim
    · cases h
  | rep es n =>
    unfold chkF at h
    dsimp only at h
    split at h
    · rename_i xs p y p2
      obtain ⟨h1, h2⟩ := and2 h
      have hl : Good X C W (.List xs p) (ev Φ G (.lst es)) := sound (.lst es) X W _ a.at_ (by rw [chk.eq_def]; exact h1)
      refine (pe_op op_rep hl.1 (sound n X W y a.at_ h2).1).mono fun σ H Q q => ?_
      obtain ⟨ρ, Γ, S, st, rg, q⟩ := q
      unfold evF at q
      dsimp only at q
      refine tDF_bind st rg q fun d S1 x H1 n1 s1 r1 rg1 q1 => ?_
      refine tDF_bind (H := H1) s1 rg1 (FinF.nx n1 (fun p f => fresh_of n1 s1 f) q1) fun e S2 y H2 n2 s2 r2 rg2 q2 => ?_
      split at q2
      · split at q2
        · rename_i hc
          obtain ⟨b, ys, rfl, hb, ra⟩ := (r1.nx0 n2).lstA
          obtain rfl := r2.int
          obtain ⟨i1, i2⟩ := in62_iff.mp hc.1
          exact ⟨_, _, _, rfl, rfl, hb.1, by omega, by omega, by rw [ra.length, szL_eq]; exact hc.2, fun p hp => newL n2 s2 (ra.rep _) q2 hp⟩
        · exact q2.elim
      · exact q2.elim
    · cases h
  | cat c1 c2 =>
    unfold chkF at h
    dsimp only at h
    split at h
    · rename_i x y p2
      obtain ⟨h1, h2⟩ := and2 h
      refine (pe_op op_cat (sound c1 X W x a.at_ h1).1 (sound c2 X W y a.at_ h2).1).mono fun σ H Q q => ?_
      obtain ⟨ρ, Γ, S, st, rg, q⟩ := q
      unfold evF at q
      dsimp only at q
      refine tDF_bind st rg q fun d S1 x H1 n1 s1 r1 rg1 q1 => ?_
      refine tDF_bind (H := H1) s1 rg1 (FinF.nx n1 (fun p f => fresh_of n1 s1 f) q1) fun e S2 y H2 n2 s2 r2 rg2 q2 => ?_
      split at q2
      · split at q2
        · rename_i hc
          obtain ⟨b, ys, rfl, hb, ra⟩ := (r1.nx0 n2).lstA
          obtain ⟨c, zs, rfl, hc2, rb⟩ := r2.lstA
          exact ⟨_, _, _, _, rfl, rfl, hb.1, hc2.1, by rw [ra.length, rb.length, szL_eq]; exact hc, fun p hp => newL n2 s2 (ra.append rb) q2 hp⟩
        · exact q2.elim
      · exact q2.elim
    · cases h
  | dnew =>
    unfold chkF at h
    dsimp only at h
    split at h
    · refine pe_dnewK.mono fun σ H Q q => ?_
      obtain ⟨ρ, Γ, S, st, rg, q⟩ := q
      intro p hp
      exact q (.ref p) _ (Nx.new hp) (st.new hp) (.dic upd_same (st.free hp) rfl .nil) ⟨p, _, rfl, rfl, hp, st.keep hp, _, upd_same, rfl, .nil⟩
    · cases h
  | dic1 c1 c2 =>
    unfold chkF at h
    dsimp only at h
    split at h
    · rename_i x y p
      obtain ⟨h1, h2⟩ := and2 h
      refine (pe_dispP (pps_cons (sound c1 X W x a.at_ h1).1 (sound c2 X W y a.at_ h2).1 pps_nil) rfl rfl (fun z => by cases z) (by show 1 ≤ 15; decide)).mono fun σ H Q q => ?_
      obtain ⟨ρ, Γ, S, st, rg, q⟩ := q
      unfold evF at q
      dsimp only at q
      refine tDF_bind st rg q fun d S1 v H1 n1 s1 r1 rg1 q1 => ?_
      refine tDF_bind (H := H1) s1 rg1 (FinF.nx n1 (fun p f => fresh_of n1 s1 f) q1) fun e S2 w H2 n2 s2 r2 rg2 q2 => ?_
      cases ek : keyD d with
      | none => rw [ek] at q2; exact q2.elim
      | some k =>
        rw [ek] at q2
        dsimp only at q2
        split at q2
        · rename_i hc
          have hv : v = kV k := ((r1.nx0 n2).vw s2).key (by
            have : vw S2 d = d := by
              cases d with
              | loc m => cases ek
              | _ => rfl
            rw [this]; exact ek)
          refine ⟨[(k, w)], by rw [hv]; rfl, by show 1 ≤ 15; decide, fun p hp => ?_⟩
          have rw1 := r2.d hc
          have m : mergeK [] [(k, w)] = [(k, w)] := rfl
          rw [m]
          exact q2 (.ref p) _ (n2.trans (Nx.new hp)) (s2.new hp) (.dic upd_same (s2.free hp) rfl (.cons (rw1.nx (Nx.new hp)) .nil)) ⟨p, _, rfl, rfl, fresh_of n2 s2 hp, s2.keep hp, _, upd_same, rfl, .cons (rw1.nx (Nx.keep hp)) .nil⟩
        · exact q2.elim
    · cases h
  | dic ks vs =>
    unfold chkF at h
    dsimp only at h
    rw [chk.eq_def] at h
    dsimp only at h
    split at h
    · rename_i keys vals p
      obtain ⟨h, h3⟩ := and2 h
      obtain ⟨h, h2⟩ := and2 h
      obtain ⟨h1, hl⟩ := and2 h
      rw [decide_eq_true_iff] at h1 hl
      have hcl := chks_len h3
      obtain ⟨i1, i2, i3⟩ := pps_of a.at_ (p := p) h2 h3 hl.1 (sounds vs)
      refine (pe_dispP i1 i2 hl.1 (fun z => h1 (by rw [z]; rfl)) hl.2).mono fun σ H Q q => ?_
      obtain ⟨ρ, Γ, S, st, rg, q⟩ := q
      unfold evF at q
      dsimp only at q
      rw [ev] at q
      have key : FinA C W ρ σ H (fun ws H2 => ∀ p, H2 p = none → ws.length = ks.length → Q (.ref p) (upd H2 p (.dK (mergeK [] (ks.zip ws))))) (evs Φ G vs Γ S) := by
        cases e1 : evs Φ G vs Γ S with
        | bad => rw [e1] at q; exact q
        | ex c d S' => rw [e1] at q; exact q
        | ok ds S1 =>
          rw [e1] at q
          have q : FinF C W ρ σ H Q (if ds.all noLoc = true ∧ ds.length = ks.length ∧ ks.length ≤ 15 ∧ ks.Nodup then .ok (.dic (ks.zip ds)) S1 else .bad) := q
          split at q
          · rename_i hc
            intro ws H2 n2 s2 r2 p hp hw
            have ra := paired_d r2 hc.1
            obtain ⟨z1, z2⟩ := zip_fst ks ws hw
            obtain ⟨z3, z4⟩ := zip_fst ks ds hc.2.1
            rw [merge_nodup _ _ (by rw [List.nil_append, z1]; exact hc.2.2.2), List.nil_append]
            refine q (.ref p) _ (n2.trans (Nx.new hp)) (s2.new hp) (.dic upd_same (s2.free hp) (by rw [z1, z3]) (by rw [z2, z4]; exact ra.nx (Nx.new hp))) ⟨p, _, rfl, rfl, fresh_of n2 s2 hp, s2.keep hp, _, upd_same, by rw [z1, z3], by rw [z2, z4]; exact ra.nx (Nx.keep hp)⟩
          · exact q.elim
      refine pairs_imp.tPairs_mono (pairs_imp (ks := ks) (cs := vs) (by omega) st rg key) fun ps H2 ⟨ws, w1, w2, w3⟩ => ⟨ks.zip ws, w2, ?_, fun p hp => w3 p hp w1⟩
      rw [List.length_zip]; omega
    · cases h
  | call f args =>
    unfold chkF at h
    dsimp only at h
    split at h
    · rename_i x p y ys q0
      obtain ⟨h, h3⟩ := and2 h
      obtain ⟨h1, h2⟩ := and2 h
      rw [decide_eq_true_iff] at h1
      subst h1
      obtain ⟨g1, g2, g3⟩ := gl_of h2
      cases hF : Φf x with
      | none =>
        refine ⟨fun pins s σ H Q I q => ?_⟩
        obtain ⟨ρ, Γ, S, st, rg, q⟩ := q
        unfold evF at q
        dsimp only at q
        rw [hF] at q
        exact q.elim
      | some F =>
        obtain ⟨fa, fd, ps, k, hm, hk, hb, hf, hr⟩ := a.fnsF x F hF
        obtain ⟨e1, e2⟩ := args_facts (env := X.env) (pos := q0) h3
        refine (pe_callG (p := p) hf hr g1 hm hk hb (fun σ => passAt a.at_.tk σ) (AllGood.args (fun c hc e q => sounds args c hc X W e a.at_ q) _ h3) g2 e1 e2).mono fun σ H Q q => ?_
        obtain ⟨ρ, Γ, S, st, rg, q⟩ := q
        unfold evF at q
        dsimp only at q
        rw [hF] at q
        refine tDFA_bind st rg q fun ds S1 vs H1 n1 s1 r1 rg1 q1 => ?_
        refine ⟨ds, ρ, S1, s1, r1, ?_⟩
        exact FinF.nx (σ := σ) n1 (fun p f => fresh_of n1 s1 f) q1
    · cases h
end
end EK

set_option Elab.async false
set_option linter.all false
set_option maxRecDepth 100000
set_option maxHeartbeats 4000000
namespace EK
open PySem L2 PySem.Spec PyProof.Rows
theorem _root_.L2.PS.mono {X : Cx} {s : Stmt} {t t' : TS} (h : PS X s t) (i : ∀ En σ H, t' En σ H → t En σ H) : PS X s t' := ⟨fun pins s σ H En I q => h.run pins s σ H En I (i En σ H q)⟩
theorem _root_.L2.PSs.mono {X : Cx} {s : List Stmt} {t t' : TS} (h : PSs X s t) (i : ∀ En σ H, t' En σ H → t En σ H) : PSs X s t' := ⟨fun pins s σ H En I q => h.run pins s σ H En I (i En σ H q)⟩
section
variable {X : Cx} {C : Ct} {Φ Φf : Str → Option Fsem} {G : Str → Option D} {W : WX} {s : Stmt} {H H' : Hp} {ρ ρ' : Rg} {σ : L2.St} {Γ : Gam} {S S' : Sto} {n0 fuel : Nat} {En : Ends}
theorem swaps_no {v : Expr} {t : Option Expr} {l : Nat} {env : Env} (h : noComp v = true) : swapsWith v t l env = pure false := by
  cases v <;> first | rfl | cases h
theorem swaps_no' {v t : Expr} {l : Nat} {env : Env} (hk : env.scope.kind = .function) (h : setB v = true) (h2 : swC v t env.scope = false) : swapsWith v (some t) l env = pure false := by
  cases v with
  | ListComp el gs sc p =>
    cases t with
    | Name t' p' =>
      unfold swapsWith
      dsimp only
      have hb : (env.blockKind == .function) = true := by unfold Env.blockKind; rw [hk]; rfl
      have h2 : ((env.scope.names.lookup t' == some .local) && p'.line == p.line && !(sc.names.any fun (n, k) => n == t' && (k == .local || k == .cell))) = false := h2
      show (pure ((env.blockKind == .function) && (env.scope.names.lookup t' == some .local) && p'.line == p.line && !(sc.names.any fun (n, k) => n == t' && (k == .local || k == .cell))) : Sem Bool) = pure false
      rw [hb, Bool.true_and, h2]
    | _ => rfl
  | _ => first | rfl | cases h
/-- x = e, a, b = e -/
theorem s_set (a : AtS X C Φ Φf G W) {tg : Tg} {e : CE} (h : chkS X.N X.env.scope (.set tg e) s = true) : PS X s (tDS C W n0 (exS Φ Φf G fuel n0 (.set tg e))) := by
  rw [chkS.eq_def] at h
  dsimp only at h
  split at h
  · rename_i t v p
    obtain ⟨h, h5⟩ := and2 h
    obtain ⟨h, h4⟩ := and2 h
    obtain ⟨h, h3⟩ := and2 h
    obtain ⟨h1, h2⟩ := and2 h
    have imp : ∀ En σ H, tDS C W n0 (exS Φ Φf G fuel n0 (.set tg e)) En σ H → tAsg (tDE C W (ev Φ G e)) (gT C.K tg) En σ H := fun En σ H q => by
      obtain ⟨ρ, Γ, S, st, rg, q⟩ := q
      rw [exS] at q
      refine tDE_go st rg q fun d S1 x H1 n1 s1 r1 rg1 q1 => ?_
      cases hs : setTg tg d Γ with
      | none => rw [hs] at q1; exact q1.elim
      | some Γ' =>
        rw [hs] at q1
        exact gT_ok rg1 r1 hs fun σ' rg' _ => q1 σ' H1 ρ (Nxs.refl _ _ _) s1 rg'
    have hg : PG X t (gT C.K tg) := tg_ok a.at_.hK a.at_.calm a.at_.nd (fun _ => a.fn) h2
    by_cases hsw : swC v t X.env.scope = true
    · rw [hsw] at h5
      -- a comprehension that goes to its name at once
      match e, tg, h5, h3, h2, imp, hg with
      | .lc elt tg' ik ia cond own, .one i, _, h3, h2, imp, hg =>
        obtain ⟨el, tgt, iter, ifs, scope, p', wi, tt, te, rfl, k1, hpi, hb, hg', ht, he, imp'⟩ := g_lc a.at_ h3 (sound elt) (sound cond) (sounds ia)
        cases t with
        | Name y py =>
          have hsw : ((X.env.scope.names.lookup y == some .local) && py.line == p'.line && !(scope.names.any fun (n, k) => n == y && (k == .local || k == .cell))) = true := hsw
          obtain ⟨w1, w3⟩ := and2 hsw
          obtain ⟨w1, w2⟩ := and2 w1
          have hy : X.env.scope.names.lookup y = some .local := by simpa using w1
          have hi : X.N[i]? = some y := by
            have h2 : (decide (X.N[i]? = some y) && okLoc true X.env.scope y) = true := h2
            exact of_decide_eq_true (and2 h2).1
          refine (ps_setLc (pos := p') (spos := p) a.at_.calm a.at_.nd hi hy (sw_true a.kind hy w2 (by simpa using w3)) hpi hb hg' ht he (folded_of k1)).mono fun En σ H q => ?_
          have z := imp En σ H q
          exact imp' σ H _ z
        | _ => cases hsw
    · have hsw : swC v t X.env.scope = false := by simpa using hsw
      refine (ps_asg (sound e X W v a.at_ h3).1 hg (swaps_no' a.kind h1 hsw) ?_ ?_).mono imp
      · cases t with
        | Tuple ts kt pt =>
          cases v with
          | Tuple vs kv pv =>
            dsimp only at h4
            rw [decide_eq_true_iff] at h4
            exact swp_ok a.kind h4
          | _ => rfl
        | _ =>
          first
          | rfl
          | (cases tg <;> cases h2)
      · cases t <;> first | rfl | (cases tg <;> cases h2)
  · cases h
end
end EK

set_option Elab.async false
set_option linter.all false
set_option maxRecDepth 100000
set_option maxHeartbeats 4000000
namespace EK
open PySem L2 PySem.Spec PyProof.Rows
section
variable {X : Cx} {C : Ct} {Φ Φf : Str → Option Fsem} {G : Str → Option D} {W : WX} {s : Stmt} {H H' : Hp} {ρ ρ' : Rg} {σ : L2.St} {Γ : Gam} {S S' : Sto} {n0 fuel : Nat} {En : Ends}
theorem sole_no {v t : Expr} {l : Nat} {env : Env} (h : noComp v = true) : swapsWithSole [t] v l env = pure false := by
  show swapsWith v (some t) l env = pure false
  exact swaps_no h
theorem Rg.keep_grow {ρ : Rg} {p : Addr} : ∀ a, a ∈ ρ.grow p ↔ a ∈ ρ.keep p := fun a => by rw [Rg.mem_grow, Rg.mem_keep]
/-- a reserved object comes into the store -/
theorem StOk.toGrow {p : Addr} {o : O} (s : StOk C H (ρ.keep p) S) (q : OAt C H (ρ.keep p) p o) : StOk C H (ρ.grow p) (S ++ [o]) := by
  have hs : ∀ a, a ∈ ρ.grow p → a ∈ ρ.keep p := fun a h => (Rg.keep_grow a).mp h
  have nd : (ρ.st ++ (ρ.ex ++ [p])).Nodup := s.nd
  refine ⟨by show (ρ.st ++ [p]).length = _; have := s.len; have e : (ρ.keep p).st = ρ.st := rfl; rw [e] at this; simp [this], ?_, fun j a u h1 h2 => ?_, fun a ha => s.rs a (List.mem_append_left _ ha)⟩
  · show ((ρ.st ++ [p]) ++ ρ.ex).Nodup
    have : ((ρ.st ++ [p]) ++ ρ.ex).Perm (ρ.st ++ (ρ.ex ++ [p])) := by
      rw [List.append_assoc]
      exact List.Perm.append_left _ (List.perm_append_comm)
    exact this.nodup_iff.mpr nd
  · have h1 : (ρ.st ++ [p])[j]? = some a := h1
    have hl : ρ.st.length = S.length := s.len
    by_cases e : j < ρ.st.length
    · rw [List.getElem?_append_left e] at h1
      rw [List.getElem?_append_left (by rw [← hl]; exact e)] at h2
      exact (s.at_ j a u h1 h2).less hs
    · have e1 : j = ρ.st.length := by
        have := (List.getElem?_eq_some_iff.mp h1).1
        rw [List.length_append, List.length_singleton] at this
        omega
      subst e1
      rw [List.getElem?_append_right (Nat.le_refl _), Nat.sub_self] at h1
      rw [hl, List.getElem?_append_right (Nat.le_refl _), Nat.sub_self] at h2
      cases h1
      cases h2
      exact q.less hs
theorem Nx.toGrow {p : Addr} (n : Nx H ρ H' ρ) (hp : H p = none) : Nx H ρ H' (ρ.grow p) := ⟨n.kp, fun a z => by
  rcases Rg.mem_grow.mp z with z | z
  · exact .inl z
  · rw [z]; exact .inr hp⟩
theorem Nxs.toGrow {p : Addr} (h0 : n0 ≤ ρ.st.length) (n : Nx H ρ H' ρ) (s : StOk C H' ρ S) (hp : H p = none) : Nxs n0 H ρ H' (ρ.grow p) := by
  refine ⟨n.toGrow hp, fun a z => ?_, rfl, ?_, (n.s (n0 := n0) s).al⟩
  · have z : a ∈ ρ.st ++ [p] := z
    rcases List.mem_append.mp z with z | z
    · exact .inl z
    · rw [List.mem_singleton.mp z]; exact .inr hp
  · show (ρ.st ++ [p]).take n0 = _
    rw [List.take_append_of_le_length h0]
theorem Pre.grow {p : Addr} : Pre ρ (ρ.grow p) := fun k a e => by
  show (ρ.st ++ [p])[k]? = some a
  rw [List.getElem?_append_left (List.getElem?_eq_some_iff.mp e).1]; exact e
theorem grow_last {p : Addr} (hl : ρ.st.length = S.length) : (ρ.grow p).st[S.length]? = some p := by
  show (ρ.st ++ [p])[S.length]? = some p
  rw [← hl, List.getElem?_append_right (Nat.le_refl _), Nat.sub_self]; rfl
/-- what is known of a new object, kept by a step -/
theorem own_step {d : D} {v : V} {i : Nat} {Γ' Γ2 : Gam} {S1 S2 : Sto} {H1 : Hp} {σ' : L2.St} (h0 : n0 ≤ ρ.st.length) (n1 : Nx H ρ H1 ρ) (s1 : StOk C H1 ρ S1) (rg : RepG C H ρ σ' Γ') (nw : New C H H1 ρ S1 v d) (ho : asOwn Γ' S1 i d = some (Γ2, S2)) :
    ∃ ρ2, Nxs n0 H ρ H1 ρ2 ∧ StOk C H1 ρ2 S2 ∧ RepG C H1 ρ2 (σ'.set i (some v)) Γ2 ∧ n0 ≤ ρ2.st.length ∧ Pre ρ ρ2 ∧ Nx H ρ H1 ρ2 := by
  obtain ⟨p, o, rfl, e2, e3, e4, e5⟩ := nw
  unfold asOwn at ho
  rw [e2] at ho
  cases ho
  refine ⟨ρ.grow p, Nxs.toGrow h0 n1 s1 e3, e4.toGrow e5, (rg.nx (n1.toGrow e3) Pre.grow).set (.inr ⟨_, p, rfl, rfl, grow_last s1.len⟩), ?_, Pre.grow, n1.toGrow e3⟩
  show n0 ≤ (ρ.st ++ [p]).length
  rw [List.length_append]; omega
end
/-! the readings below say, too, that the def's own part of the store begins at n0 -/
def tDS' (C : Ct) (W : WX) (n0 : Nat) (f : Gam → Sto → SR) : TS := fun En σ H => ∃ ρ Γ S, n0 ≤ ρ.st.length ∧ StOk C H ρ S ∧ RepG C H ρ σ Γ ∧ FinS C W n0 En ρ H (f Γ S)
section
variable {X : Cx} {C : Ct} {Φ Φf : Str → Option Fsem} {G : Str → Option D} {W : WX} {s : Stmt} {H H' : Hp} {ρ ρ' : Rg} {σ : L2.St} {Γ : Gam} {S S' : Sto} {n0 fuel : Nat} {En : Ends}
theorem weak {f : Gam → Sto → SR} (h : PS X s (tDS C W n0 f)) : PS X s (tDS' C W n0 f) := h.mono fun En σ H ⟨ρ, Γ, S, _, st, rg, q⟩ => ⟨ρ, Γ, S, st, rg, q⟩
theorem tDF_go {f : Gam → Sto → R} {k : D → Sto → SR} {Q' : VK} (st : StOk C H ρ S) (rg : RepG C H ρ σ Γ) (h : FinS C W n0 En ρ H ((f Γ S).go Γ k))
    (hk : ∀ d S' v H', Nx H ρ H' ρ → StOk C H' ρ S' → RepD C H' ρ v d → New C H H' ρ S' v d → FinS C W n0 En ρ H (k d S') → Q' v H') : tDF C W f σ H Q' := by
  refine ⟨ρ, Γ, S, st, rg, ?_⟩
  cases e : f Γ S with
  | ok d S' => rw [e] at h; exact fun v H' n s r nw => hk d S' v H' n s r nw h
  | ex c d S' => rw [e] at h; exact fun Ca dd v H' m n s q nd r => h Ca dd v σ H' ρ m (n.s s) s (rg.nx0 n) q nd r
  | bad => rw [e] at h; exact h
theorem s_own (a : AtS X C Φ Φf G W) {i : Nat} {e : FE} (h : chkS X.N X.env.scope (.own i e) s = true) : PS X s (tDS' C W n0 (exS Φ Φf G fuel n0 (.own i e))) := by
  rw [chkS.eq_def] at h
  dsimp only at h
  split at h
  · rename_i x px v p
    obtain ⟨h, h4⟩ := and2 h
    obtain ⟨h, h3⟩ := and2 h
    obtain ⟨h1, h2⟩ := and2 h
    rw [decide_eq_true_iff] at h2
    refine (ps_asg (g_F a h4) (tg_name (cl := true) a.at_.nd (fun _ => a.fn) h2 h3) (sole_no h1) rfl rfl).mono fun En σ H q => ?_
    obtain ⟨ρ, Γ, S, h0, st, rg, q⟩ := q
    rw [exS] at q
    refine tDF_go st rg q fun d S1 v H1 n1 s1 r1 nw q1 => ?_
    cases ho : asOwn Γ S1 i d with
    | none => rw [ho] at q1; exact q1.elim
    | some w =>
      obtain ⟨Γ2, S2⟩ := w
      rw [ho] at q1
      obtain ⟨ρ2, m1, m2, m3, m4, m5, m6⟩ := own_step h0 n1 s1 rg nw ho
      exact q1 _ H1 ρ2 m1 m2 m3
  · cases h
theorem s_exp (a : AtS X C Φ Φf G W) {e : CE} (h : chkS X.N X.env.scope (.exp e) s = true) : PS X s (tDS C W n0 (exS Φ Φf G fuel n0 (.exp e))) := by
  rw [chkS.eq_def] at h
  dsimp only at h
  split at h
  · rename_i v p
    obtain ⟨h1, h2⟩ := and2 h
    refine (ps_expr (sound e X W v a.at_ h2).1 (swaps_no h1)).mono fun En σ H q => ?_
    obtain ⟨ρ, Γ, S, st, rg, q⟩ := q
    rw [exS] at q
    refine tDE_go st rg q fun d S1 x H1 n1 s1 r1 rg1 q1 => q1 σ H1 ρ (Nxs.refl _ _ _) s1 rg1
  · cases h
theorem s_ret (a : AtS X C Φ Φf G W) {e : CE} (h : chkS X.N X.env.scope (.ret e) s = true) : PS X s (tDS C W n0 (exS Φ Φf G fuel n0 (.ret e))) := by
  rw [chkS.eq_def] at h
  dsimp only at h
  split at h
  · rename_i v p
    refine (ps_ret (sound e X W v a.at_ h).1).mono fun En σ H q => ?_
    obtain ⟨ρ, Γ, S, st, rg, q⟩ := q
    rw [exS] at q
    refine tDE_go st rg q fun d S1 x H1 n1 s1 r1 rg1 q1 => q1 x H1 ρ (Nxs.refl _ _ _) s1 r1 (fun z => by cases z)
  · cases h
theorem s_retF (a : AtS X C Φ Φf G W) {e : FE} (h : chkS X.N X.env.scope (.retF e) s = true) : PS X s (tDS C W n0 (exS Φ Φf G fuel n0 (.retF e))) := by
  rw [chkS.eq_def] at h
  dsimp only at h
  split at h
  · rename_i v p
    refine (ps_ret (g_F a h)).mono fun En σ H q => ?_
    obtain ⟨ρ, Γ, S, st, rg, q⟩ := q
    rw [exS] at q
    refine tDF_go st rg q fun d S1 x H1 n1 s1 r1 nw q1 => q1 x H1 ρ (n1.s s1) s1 (.inl r1) (fun _ => nw)
  · cases h
theorem var_pe {i : Nat} {x : Str} {p : Pos} (h : varB X.env.scope X.N i x = true) : PE X (.Name x p) (tVar i) := by
  unfold varB at h
  obtain ⟨h, h4⟩ := and2 h
  obtain ⟨h, h3⟩ := and2 h
  obtain ⟨h1, h2⟩ := and2 h
  rw [decide_eq_true_iff] at h1
  refine pe_var h1 ?_ (by simpa using h3) (by simpa using h4)
  unfold visB at h2
  split at h2
  · exact .inl (by assumption)
  · exact .inr (.inl (by assumption))
  · exact .inr (.inr (by assumption))
  · cases h2
/-- the object of the store that a slot holds -/
theorem loc_at {i k : Nat} (st : StOk C H ρ S) (rg : RepG C H ρ σ Γ) (h : Γ[i]? = some (some (.loc k))) : ∃ p, σ[i]? = some (some (.ref p)) ∧ ρ.st[k]? = some p := by
  obtain ⟨v, h1, h2⟩ := rg.at_ i _ h
  rcases h2 with h2 | ⟨k', a, e, rfl, h3⟩
  · exact absurd rfl (h2.noloc (k := k))
  · cases e; exact ⟨a, h1, h3⟩
theorem s_app (a : AtS X C Φ Φf G W) {i : Nat} {e : CE} (h : chkS X.N X.env.scope (.app i e) s = true) : PS X s (tDS C W n0 (exS Φ Φf G fuel n0 (.app i e))) := by
  rw [chkS.eq_def] at h
  dsimp only at h
  split at h
  · rename_i x px n ap y cp p
    obtain ⟨h, h5⟩ := and2 h
    obtain ⟨h, h4⟩ := and2 h
    obtain ⟨h, h3⟩ := and2 h
    obtain ⟨h1, h2⟩ := and2 h
    rw [decide_eq_true_iff] at h1
    subst h1
    refine (ps_expr (pe_bm F.plainAttrs_list F.slot_list_append F.type_list_append mt_append (var_pe h2) (pa_cons (sound e X W y a.at_ h5).1 pa_nil (star_of h3)) rfl (few_of h3) h4 (star_of h3) rfl) rfl).mono fun En σ H q => ?_
    obtain ⟨ρ, Γ, S, st, rg, q⟩ := q
    rw [exS] at q
    split at q
    · rename_i k hk
      obtain ⟨b, hb, hkb⟩ := loc_at st rg hk
      split at q
      · rename_i ds0 hS
        refine ⟨_, hb, ?_, ?_⟩
        · obtain ⟨xs, hx, _⟩ := st.at_ k b _ hkb hS
          exact .inl ⟨rfl, xs, .inl (.inl hx)⟩
        · refine tDE_go st rg q fun d S1 v H1 n1 s1 r1 rg1 q1 => ?_
          split at q1
          · rename_i ds hS1
            split at q1
            · rename_i hc
              obtain ⟨xs, hx, ra⟩ := s1.at_ k b _ hkb hS1
              have hm : b ∈ ρ.st := List.mem_of_getElem? hkb
              have hn := Nx.mut (H := H1) (ρ := ρ) (o := .lst (xs ++ [v])) hm
              refine ⟨b, xs, v, rfl, rfl, hx, by rw [ra.length, szL_eq]; exact hc.2, ?_⟩
              have s2 : StOk C (upd H1 b (.lst (xs ++ [v]))) ρ (S1.set k (.lst (ds ++ [d]))) := s1.mut hkb ⟨_, upd_same, (ra.nx hn).append (.cons ((r1.d hc.1).nx hn) .nil)⟩
              exact q1 σ _ ρ (hn.s s2) s2 (rg1.nx0 hn)
            · exact q1.elim
          · exact q1.elim
      · exact q.elim
    · exact q.elim
  · cases h
theorem s_putL (a : AtS X C Φ Φf G W) {i : Nat} {k e : CE} (h : chkS X.N X.env.scope (.putL i k e) s = true) : PS X s (tDS C W n0 (exS Φ Φf G fuel n0 (.putL i k e))) := by
  rw [chkS.eq_def] at h
  dsimp only at h
  split at h
  · rename_i x px j pj v p
    obtain ⟨h, h5⟩ := and2 h
    obtain ⟨h, h4⟩ := and2 h
    obtain ⟨h, h3⟩ := and2 h
    obtain ⟨h1, h2⟩ := and2 h
    refine (ps_asg (sound e X W v a.at_ h5).1 (pg_sub (var_pe h2) (sound k X W j a.at_ h4).1 set_list (by intro _; cases j <;> first | rfl | cases h3)) (sole_no h1) rfl rfl).mono fun En σ H q => ?_
    obtain ⟨ρ, Γ, S, st, rg, q⟩ := q
    rw [exS] at q
    refine tDE_go st rg q fun d S1 v H1 n1 s1 r1 rg1 q1 => ?_
    split at q1
    · rename_i l hl
      obtain ⟨b, hb, hkb⟩ := loc_at s1 rg1 hl
      refine ⟨_, hb, ?_⟩
      refine tDE_go s1 rg1 q1 fun z S2 y H2 n2 s2 r2 rg2 q2 => ?_
      split at q2
      · rename_i ds zi hS
        split at q2
        · rename_i m hm
          split at q2
          · rename_i hc
            obtain ⟨xs, hx, ra⟩ := s2.at_ l b _ hkb hS
            obtain rfl := r2.int
            have hmem : b ∈ ρ.st := List.mem_of_getElem? hkb
            have hn := Nx.mut (H := H2) (ρ := ρ) (o := .lst (xs.set m v)) hmem
            refine ⟨b, xs, zi, m, rfl, rfl, hx, by rw [ra.length]; exact hm, ?_⟩
            have s3 : StOk C (upd H2 b (.lst (xs.set m v))) ρ (S2.set l (.lst (ds.set m d))) := s2.mut hkb ⟨_, upd_same, (ra.nx hn).set (((r1.nx0 n2).d hc).nx hn)⟩
            exact q2 σ _ ρ (hn.s s3) s3 (rg2.nx0 hn)
          · exact q2.elim
        · exact q2.elim
      · exact q2.elim
    · exact q1.elim
  · cases h
theorem RepA.putK {k : Key} {v : V} {d : D} (rv : RepD C H ρ v d) : ∀ {kvs : List (Key × V)} {es : List (Key × D)}, kvs.map (·.1) = es.map (·.1) → RepA C H ρ (kvs.map (·.2)) (es.map (·.2)) →
    (L2.putK kvs k v).map (·.1) = (putKD es k d).map (·.1) ∧ RepA C H ρ ((L2.putK kvs k v).map (·.2)) ((putKD es k d).map (·.2)) := by
  intro kvs es e r
  have hany : ∀ (kvs : List (Key × V)) (es : List (Key × D)), kvs.map (·.1) = es.map (·.1) → (kvs.any fun kv => decide (kv.1 = k)) = (es.any fun kv => decide (kv.1 = k)) := by
    intro kvs
    induction kvs with
    | nil => intro es e; cases es with | nil => rfl | cons _ _ => cases e
    | cons p kvs ih =>
      intro es e
      cases es with
      | nil => cases e
      | cons q es =>
        have e1 : p.1 = q.1 := (List.cons.inj e).1
        rw [List.any_cons, List.any_cons, ih es (List.cons.inj e).2, e1]
  have hmap : ∀ (kvs : List (Key × V)) (es : List (Key × D)), kvs.map (·.1) = es.map (·.1) → RepA C H ρ (kvs.map (·.2)) (es.map (·.2)) →
      (kvs.map fun kv => if kv.1 = k then (kv.1, v) else kv).map (·.1) = (es.map fun kv => if kv.1 = k then (kv.1, d) else kv).map (·.1) ∧ RepA C H ρ ((kvs.map fun kv => if kv.1 = k then (kv.1, v) else kv).map (·.2)) ((es.map fun kv => if kv.1 = k then (kv.1, d) else kv).map (·.2)) := by
    intro kvs
    induction kvs with
    | nil => intro es e _; cases es with | nil => exact ⟨rfl, .nil⟩ | cons _ _ => cases e
    | cons p kvs ih =>
      intro es e r
      cases es with
      | nil => cases e
      | cons q es =>
        have e1 : p.1 = q.1 := (List.cons.inj e).1
        cases r with
        | cons r1 r2 =>
          obtain ⟨i1, i2⟩ := ih es (List.cons.inj e).2 r2
          rw [List.map_cons, List.map_cons, List.map_cons, List.map_cons, List.map_cons, List.map_cons, i1]
          by_cases hq : q.1 = k
          · rw [if_pos (e1.trans hq), if_pos hq]
            exact ⟨by rw [e1], .cons rv i2⟩
          · rw [if_neg (fun z => hq (e1.symm.trans z)), if_neg hq]
            exact ⟨by rw [e1], .cons r1 i2⟩
  unfold L2.putK putKD
  rw [hany kvs es e]
  split
  · exact hmap kvs es e r
  · rw [List.map_append, List.map_append, List.map_append, List.map_append, e]
    exact ⟨rfl, r.append (.cons rv .nil)⟩
theorem s_putD (a : AtS X C Φ Φf G W) {i : Nat} {k e : CE} (h : chkS X.N X.env.scope (.putD i k e) s = true) : PS X s (tDS C W n0 (exS Φ Φf G fuel n0 (.putD i k e))) := by
  rw [chkS.eq_def] at h
  dsimp only at h
  split at h
  · rename_i x px j pj v p
    obtain ⟨h, h5⟩ := and2 h
    obtain ⟨h, h4⟩ := and2 h
    obtain ⟨h, h3⟩ := and2 h
    obtain ⟨h1, h2⟩ := and2 h
    refine (ps_dput (by have := a.at_.units; omega) (var_pe h2) (sound k X W j a.at_ h4).1 (sound e X W v a.at_ h5).1 (swaps_no h1)).mono fun En σ H q => ?_
    obtain ⟨ρ, Γ, S, st, rg, q⟩ := q
    rw [exS] at q
    refine tDE_go st rg q fun d S1 v H1 n1 s1 r1 rg1 q1 => ?_
    split at q1
    · rename_i l hl
      obtain ⟨b, hb, hkb⟩ := loc_at s1 rg1 hl
      refine ⟨_, hb, ?_⟩
      refine tDE_go s1 rg1 q1 fun z S2 y H2 n2 s2 r2 rg2 q2 => ?_
      split at q2
      · rename_i es qk hS hq
        split at q2
        · rename_i hc
          obtain ⟨kvs, hx, ek, ra⟩ := s2.at_ l b _ hkb hS
          have hmem : b ∈ ρ.st := List.mem_of_getElem? hkb
          have hn := Nx.mut (H := H2) (ρ := ρ) (o := .dK (L2.putK kvs qk v)) hmem
          have hkl : kvs.length = es.length := by have := congrArg List.length ek; simpa using this
          have hy : y = kV qk := by
            have hz : noLoc z = true := by cases z <;> first | rfl | cases hq
            have : VwR C H2 ρ y z := .inl (r2.d hz)
            exact this.key hq
          refine ⟨b, _, rfl, .inl ⟨kvs, qk, hx, hy, by rw [hkl, szL_eq]; exact hc.2, rfl⟩, ?_⟩
          obtain ⟨i1, i2⟩ := RepA.putK (k := qk) (((r1.nx0 n2).d hc.1).nx hn) ek (ra.nx hn)
          have s3 : StOk C (upd H2 b (.dK (L2.putK kvs qk v))) ρ (S2.set l (.dic (putKD es qk d))) := s2.mut hkb ⟨_, upd_same, i1, i2⟩
          exact q2 σ _ ρ (hn.s s3) s3 (rg2.nx0 hn)
        · exact q2.elim
      · exact q2.elim
    · exact q1.elim
  · cases h

/-! ### parallel assignment -/
def tEs (C : Ct) (W : WX) (Φ Φf : Str → Option Fsem) (G : Str → Option D) : List (CE ⊕ FE) → TA
  | [] => tNil
  | .inl c :: es => tCons (tDE C W (ev Φ G c)) (tEs C W Φ Φf G es)
  | .inr c :: es => tCons (tDF C W (evF Φ Φf G c)) (tEs C W Φ Φf G es)
theorem es_pa (a : AtS X C Φ Φf G W) : ∀ {es : List (CE ⊕ FE)} {vs : List Expr}, chkEs X.N X.env.scope es vs = true → PA X vs (tEs C W Φ Φf G es)
  | [], vs, h => by
    unfold chkEs at h
    cases vs with
    | nil => exact pa_nil
    | cons _ _ => cases h
  | .inl c :: es, vs, h => by
    unfold chkEs at h
    cases vs with
    | nil => cases h
    | cons v vs =>
      obtain ⟨h, h3⟩ := and2 h
      obtain ⟨h1, h2⟩ := and2 h
      exact pa_cons (sound c X W v a.at_ h2).1 (es_pa a h3) (star_of h1)
  | .inr c :: es, vs, h => by
    unfold chkEs at h
    cases vs with
    | nil => cases h
    | cons v vs =>
      obtain ⟨h, h3⟩ := and2 h
      obtain ⟨h1, h2⟩ := and2 h
      exact pa_cons (g_F a h2) (es_pa a h3) (star_of h1)
def setAll : List Nat → List V → L2.St → L2.St
  | i :: is, v :: vs, σ => setAll is vs (σ.set i (some v))
  | _, _, σ => σ
theorem RepG.mono {Γ' : Gam} {σ' : L2.St} (N : Nx H ρ H' ρ') (p : Pre ρ ρ') (g : RepG C H ρ σ' Γ') : RepG C H' ρ' σ' Γ' := g.nx N p
theorem par_imp : ∀ {is : List Nat} {es : List (CE ⊕ FE)} {H : Hp} {ρ : Rg} {S : Sto} {Γ Γ' : Gam} {σ σ' : L2.St}, n0 ≤ ρ.st.length → StOk C H ρ S → RepG C H ρ σ Γ → RepG C H ρ σ' Γ' → FinS C W n0 En ρ H (parS Φ Φf G is es Γ Γ' S) →
    tEs C W Φ Φf G es σ H fun vs H1 => vs.length = is.length ∧ En.nx (setAll is vs σ') H1
  | [], [], H, ρ, S, Γ, Γ', σ, σ', h0, st, rg, rg', q => by
    unfold parS at q
    exact ⟨rfl, q σ' H ρ (Nxs.refl _ _ _) st rg'⟩
  | i :: is, .inl c :: es, H, ρ, S, Γ, Γ', σ, σ', h0, st, rg, rg', q => by
    unfold parS at q
    refine tDE_go st rg q fun d S1 v H1 n1 s1 r1 rg1 q1 => ?_
    have ih := par_imp (is := is) (es := es) h0 s1 rg1 ((rg'.nx0 n1).set (i := i) r1) q1
    exact es_mono ih fun vs H2 ⟨e1, e2⟩ => ⟨by rw [List.length_cons, List.length_cons, e1], e2⟩
  | i :: is, .inr c :: es, H, ρ, S, Γ, Γ', σ, σ', h0, st, rg, rg', q => by
    unfold parS at q
    refine tDF_go st rg q fun d S1 v H1 n1 s1 r1 nw q1 => ?_
    cases ho : asOwn Γ' S1 i d with
    | none => rw [ho] at q1; exact q1.elim
    | some w =>
      obtain ⟨Γ2, S2⟩ := w
      rw [ho] at q1
      obtain ⟨ρ2, m1, m2, m3, m4, m5, m6⟩ := own_step h0 n1 s1 rg' nw ho
      have ih := par_imp (is := is) (es := es) (H := H1) (ρ := ρ2) (σ := σ) (Γ := Γ) m4 m2 (rg.nx m6 m5) m3 (FinS.nxs m1 q1)
      exact es_mono ih fun vs H2 ⟨e1, e2⟩ => ⟨by rw [List.length_cons, List.length_cons, e1], e2⟩
  | [], _ :: _, _, _, _, _, _, _, _, _, _, _, _, q => by unfold parS at q; exact q.elim
  | _ :: _, [], _, _, _, _, _, _, _, _, _, _, _, q => by unfold parS at q; exact q.elim
where es_mono : ∀ {es : List (CE ⊕ FE)} {σ : L2.St} {H : Hp} {P P' : List V → Hp → Prop}, tEs C W Φ Φf G es σ H P → (∀ vs H, P vs H → P' vs H) → tEs C W Φ Φf G es σ H P'
  | [], _, _, _, _, h, i => i _ _ h
  | .inl c :: es, σ, H, P, P', h, i => by
    obtain ⟨ρ, Γ, S, st, rg, h⟩ := h
    refine ⟨ρ, Γ, S, st, rg, ?_⟩
    cases e : ev Φ G c Γ S with
    | bad => rw [e] at h; exact h
    | ex c d S' => rw [e] at h; exact h
    | ok d S1 => rw [e] at h; exact fun v H1 n s r => es_mono (es := es) (h v H1 n s r) fun ps H2 q => i _ _ q
  | .inr c :: es, σ, H, P, P', h, i => by
    obtain ⟨ρ, Γ, S, st, rg, h⟩ := h
    refine ⟨ρ, Γ, S, st, rg, ?_⟩
    cases e : evF Φ Φf G c Γ S with
    | bad => rw [e] at h; exact h
    | ex c d S' => rw [e] at h; exact h
    | ok d S1 => rw [e] at h; exact fun v H1 n s r nw => es_mono (es := es) (h v H1 n s r nw) fun ps H2 q => i _ _ q
theorem nms_par {sc : Scope} {ts : List Expr} {r : List Str} {vs : List Expr} (h : swp ts vs sc = some (some r)) : r = nms sc ts := by
  unfold swp at h
  split at h
  · cases h
  · split at h
    · cases h
    · split at h
      · cases h
      · split at h
        · cases h
        · split at h
          · cases h
          · cases h; rfl
theorem parB_one {N : List Str} {sc : Scope} {i : Nat} {is : List Nat} {ts : List Expr} (h : parB N sc (i :: is) ts = true) : ∃ x p ts', ts = .Name x p :: ts' ∧ N[i]? = some x ∧ sc.names.lookup x = some .local ∧ parB N sc is ts' = true := by
  cases ts with
  | nil => cases h
  | cons t ts' =>
    cases t with
    | Name x p =>
      have h : (decide (N[i]? = some x) && decide (sc.names.lookup x = some .local) && parB N sc is ts') = true := h
      obtain ⟨h, h3⟩ := and2 h
      obtain ⟨h1, h2⟩ := and2 h
      exact ⟨x, p, ts', rfl, of_decide_eq_true h1, of_decide_eq_true h2, h3⟩
    | _ => cases h
theorem parB_end {N : List Str} {sc : Scope} {ts : List Expr} (h : parB N sc [] ts = true) : ts = [] := by
  cases ts with
  | nil => rfl
  | cons t ts' => cases h
theorem fm_all {α β : Type} {f : α → Option β} : ∀ {l : List α}, (l.filterMap f).length = l.length → ∀ a ∈ l, (f a).isSome
  | [], _, a, h => by cases h
  | x :: xs, h, a, ha => by
    cases e : f x with
    | none =>
      rw [List.filterMap_cons_none e] at h
      have := List.length_filterMap_le f xs
      rw [List.length_cons] at h
      omega
    | some b =>
      rw [List.filterMap_cons_some e, List.length_cons, List.length_cons] at h
      rcases List.mem_cons.mp ha with q | q
      · rw [q, e]; rfl
      · exact fm_all (by omega) a q
theorem nmB_of {sc : Scope} {l : Nat} {x : Str} {p : Pos} (h : (nmB sc l (.Name x p)).isSome) : nmB sc l (.Name x p) = some x := by
  have h : (if (sc.names.lookup x == some .local && p.line == l) = true then some x else none).isSome := h
  show (if (sc.names.lookup x == some .local && p.line == l) = true then some x else none) = some x
  by_cases c : (sc.names.lookup x == some .local && p.line == l) = true
  · rw [if_pos c]
  · rw [if_neg c] at h; cases h
theorem s_par (a : AtS X C Φ Φf G W) {is : List Nat} {es : List (CE ⊕ FE)} (h : chkS X.N X.env.scope (.par is es) s = true) : PS X s (tDS' C W n0 (exS Φ Φf G fuel n0 (.par is es))) := by
  rw [chkS.eq_def] at h
  dsimp only at h
  split at h
  · rename_i ts kt pt vs kv pv p
    obtain ⟨h, h5⟩ := and2 h
    obtain ⟨h, h4⟩ := and2 h
    obtain ⟨h, h3⟩ := and2 h
    obtain ⟨h1, h2⟩ := and2 h
    rw [decide_eq_true_iff] at h2 h3
    cases hs : swp ts vs X.env.scope with
    | none => rw [hs] at h1; cases h1
    | some o =>
      cases o with
      | none => rw [hs] at h1; cases h1
      | some r =>
        have hr := nms_par hs
        have hw := swp_ok (env := X.env) (k := kt) (k' := kv) (p := pt) (p' := pv) a.kind hs
        have hpa := es_pa a h5
        have hlen : ts.length = vs.length ∧ r.length = ts.length := by
          unfold swp at hs
          split at hs
          · cases hs
          · rename_i c1
            split at hs
            · cases hs
            · split at hs
              · cases hs
              · rename_i c3
                simp only [Bool.or_eq_true, not_or, Bool.not_eq_true, bne_eq_false_iff_eq] at c1 c3
                exact ⟨c1.2.symm, by rw [hr]; exact c3.1⟩
        have hall := fun (z : (nms X.env.scope ts).length = ts.length) => fm_all z
        have hall := hall (by rw [← hr]; exact hlen.2)
        rcases h3 with h3 | h3
        · match is, h3, h2, h4 with
          | [i, j], _, nd, h4 =>
            obtain ⟨x, px, ts1, rfl, k1, k3, h4⟩ := parB_one h4
            obtain ⟨y, py, ts2, rfl, k2, k4, h4⟩ := parB_one h4
            obtain rfl := parB_end h4
            have hij : i ≠ j := by intro z; subst z; simp at nd
            match vs, hlen, hs, hw, hpa with
            | [v1, v2], hlen, hs, hw, hpa =>
              have hr2 : r = [x, y] := by
                rw [hr]; unfold nms
                rw [List.filterMap_cons_some (nmB_of (hall _ (by simp))), List.filterMap_cons_some (nmB_of (hall _ (by simp)))]; rfl
              rw [hr2] at hw
              refine (ps_par a.at_.calm a.at_.nd k1 k2 hij k3 k4 hpa hw rfl).mono fun En σ H q => ?_
              obtain ⟨ρ, Γ, S, h0, st, rg, q⟩ := q
              rw [exS] at q
              refine par_imp.es_mono (par_imp h0 st rg rg q) fun ws H1 ⟨e1, e2⟩ => ?_
              match ws, e1, e2 with
              | [w1, w2], _, e2 => exact ⟨w1, w2, rfl, e2⟩
        · match is, h3, h2, h4 with
          | [i, j, l], _, nd, h4 =>
            obtain ⟨x, px, ts1, rfl, k1, k3, h4⟩ := parB_one h4
            obtain ⟨y, py, ts2, rfl, k2, k4, h4⟩ := parB_one h4
            obtain ⟨z, pz, ts3, rfl, k5, k6, h4⟩ := parB_one h4
            obtain rfl := parB_end h4
            have hij : i ≠ j := by intro z; subst z; simp at nd
            have hil : i ≠ l := by intro z; subst z; simp at nd
            have hjl : j ≠ l := by intro z; subst z; simp at nd
            match vs, hlen, hs, hw, hpa with
            | [v1, v2, v3], hlen, hs, hw, hpa =>
              have hr2 : r = [x, y, z] := by
                rw [hr]; unfold nms
                rw [List.filterMap_cons_some (nmB_of (hall _ (by simp))), List.filterMap_cons_some (nmB_of (hall _ (by simp))), List.filterMap_cons_some (nmB_of (hall _ (by simp)))]; rfl
              rw [hr2] at hw
              refine (ps_par3 a.at_.calm a.at_.nd k1 k2 k5 hij hil hjl k3 k4 k6 hpa hw rfl).mono fun En σ H q => ?_
              obtain ⟨ρ, Γ, S, h0, st, rg, q⟩ := q
              rw [exS] at q
              refine par_imp.es_mono (par_imp h0 st rg rg q) fun ws H1 ⟨e1, e2⟩ => ?_
              match ws, e1, e2 with
              | [w1, w2, w3], _, e2 => exact ⟨w1, w2, w3, rfl, e2⟩
  · cases h
end
end EK

set_option Elab.async false
set_option linter.all false
set_option maxRecDepth 100000
set_option maxHeartbeats 4000000
namespace EK
open PySem L2 PySem.Spec PyProof.Rows
section
variable {X : Cx} {C : Ct} {Φ Φf : Str → Option Fsem} {G : Str → Option D} {W : WX} {s : Stmt} {H H' : Hp} {ρ ρ' : Rg} {σ : L2.St} {Γ : Gam} {S S' : Sto} {n0 fuel : Nat} {En : Ends}
theorem Nxs.len (n : Nxs n0 H ρ H' ρ') (h : n0 ≤ ρ.st.length) : n0 ≤ ρ'.st.length := by
  have := congrArg List.length n.pre
  rw [List.length_take, List.length_take] at this
  omega
/-- a run and what follows it -/
theorem then_fin {r : SR} {k : Gam → Sto → SR} {En' : Ends} (q : FinS C W n0 En ρ H (r.then k)) (hr : En'.rt = En.rt)
    (hk : ∀ σ' H' ρ' Γ' S', Nxs n0 H ρ H' ρ' → StOk C H' ρ' S' → RepG C H' ρ' σ' Γ' → FinS C W n0 En ρ' H' (k Γ' S') → En'.nx σ' H') : FinS C W n0 En' ρ H r := by
  cases r with
  | next Γ1 S1 => exact fun σ' H' ρ' n s g => hk σ' H' ρ' Γ1 S1 n s g (FinS.nxs n q)
  | ret d S1 fr => exact fun v H' ρ' n s g f => by rw [hr]; exact q v H' ρ' n s g f
  | ex c d Γ1 S1 => exact q
  | bad => exact q
theorem s_ite (a : AtS X C Φ Φf G W) {c : CE} {as bs : List CS} (h : chkS X.N X.env.scope (.ite c as bs) s = true)
    (ha : ∀ ss, chkSs X.N X.env.scope as ss = true → PSs X ss (tDS' C W n0 (exSs Φ Φf G fuel n0 as))) (hb : ∀ ss, chkSs X.N X.env.scope bs ss = true → PSs X ss (tDS' C W n0 (exSs Φ Φf G fuel n0 bs))) :
    PS X s (tDS' C W n0 (exS Φ Φf G fuel n0 (.ite c as bs))) := by
  rw [chkS.eq_def] at h
  dsimp only at h
  split at h
  · rename_i t p q pos
    obtain ⟨h, h4⟩ := and2 h
    obtain ⟨h, h3⟩ := and2 h
    obtain ⟨h1, h2⟩ := and2 h
    refine (ps_if ((sound c X W t a.at_ h2).2.1 h1) (ha _ h3) (hb _ h4)).mono fun En σ H q => ?_
    obtain ⟨ρ, Γ, S, h0, st, rg, q⟩ := q
    rw [exS] at q
    refine tDT_go st rg q (fun d S' z => ?_) fun b S1 H1 n1 s1 rg1 q1 => ?_
    · cases d with
      | bl b => exact ⟨b, rfl⟩
      | _ => exact absurd rfl z
    · cases b with
      | true => exact ⟨ρ, Γ, S1, h0, s1, rg1, q1⟩
      | false => exact ⟨ρ, Γ, S1, h0, s1, rg1, q1⟩
  · cases h
theorem s_loop (a : AtS X C Φ Φf G W) {tg : Tg} {ik : Ik} {ia : List CE} {bs : List CS} (h : chkS X.N X.env.scope (.loop tg ik ia bs) s = true)
    (hb : ∀ ss, chkSs X.N X.env.scope bs ss = true → PSs X ss (tDS' C W n0 (exSs Φ Φf G fuel n0 bs))) :
    PS X s (tDS' C W n0 (exS Φ Φf G fuel n0 (.loop tg ik ia bs))) := by
  rw [chkS.eq_def] at h
  dsimp only at h
  split at h
  · rename_i t it b pos
    obtain ⟨h, h4⟩ := and2 h
    obtain ⟨h, h3⟩ := and2 h
    obtain ⟨h1, h2⟩ := and2 h
    refine (ps_for a.po a.at_.calm (pi_ok a.at_ h3 (fun c hc e' q => sounds ia c hc X W e' a.at_ q)) (tg_ok a.at_.hK a.at_.calm a.at_.nd (fun _ => a.fn) h2) (hb _ h4) (folded_of h1)).mono fun En σ H q => ?_
    obtain ⟨ρ, Γ, S, h0, st, rg, q⟩ := q
    rw [exS] at q
    refine ⟨ρ, Γ, S, st, rg, ?_⟩
    cases e1 : evs Φ G ia Γ S with
    | bad => rw [e1] at q; exact q
    | ex c d S' => rw [e1] at q; exact fun Ca dd v H' m n s w nd r => q Ca dd v σ H' ρ m (n.s s) s (rg.nx0 n) w nd r
    | ok ds S1 =>
      rw [e1] at q
      have q : FinS C W n0 En ρ H (match itD ik ds with | some items => loopN (exSs Φ Φf G fuel n0 bs) tg items Γ S1 | none => .bad) := q
      cases e2 : itD ik ds with
      | none => rw [e2] at q; exact q.elim
      | some items =>
        rw [e2] at q
        refine ⟨items, e2, fun J H1 n1 st1 hj => ?_⟩
        obtain ⟨g, y, w, hg, hy⟩ := hj
        refine for_it w (fun i σ H => ∃ ρ2 Γ S, Nxs n0 H1 ρ H ρ2 ∧ StOk C H ρ2 S ∧ RepG C H ρ2 σ Γ ∧ FinS C W n0 En ρ2 H (loopN (exSs Φ Φf G fuel n0 bs) tg (items.drop i) Γ S)) ?_ ?_ ?_ ?_
        · exact ⟨ρ, Γ, S1, Nxs.refl _ _ _, st1, rg.nx0 n1, FinS.nx n1 st1 q⟩
        · rintro i σ H _ ⟨ρ2, Γ, S, n2, _⟩
          exact hg H ρ2 n2.nx
        · rintro i x σ H H' hi ⟨ρ2, Γ, S, n2, s2, rg2, q2⟩ hyi
          obtain ⟨hc, d, hd, rd⟩ := hy i H ρ2 x H' n2.nx (fun a ha => s2.there ha) hyi
          have n3 : Nx H ρ2 H' ρ2 ∧ StOk C H' ρ2 S := by
            rcases hc with rfl | ⟨T, o, hT, rfl⟩
            · exact ⟨Nx.refl _ _, s2⟩
            · exact ⟨Nx.new hT, s2.new hT⟩
          have hdrop : items.drop i = d :: items.drop (i + 1) := by
            have hlt := (List.getElem?_eq_some_iff.mp hd).1
            rw [List.drop_eq_getElem_cons hlt]
            have := (List.getElem?_eq_some_iff.mp hd).2
            rw [this]
          rw [hdrop] at q2
          unfold loopN at q2
          cases hs : setTg tg d Γ with
          | none => rw [hs] at q2; exact q2.elim
          | some Γ' =>
            rw [hs] at q2
            refine gT_ok (rg2.nx0 n3.1) (.inl rd) hs fun σ2 rg3 o2 => ?_
            refine ⟨ρ2, Γ', S, n2.len h0, n3.2, rg3, ?_⟩
            refine then_fin (FinS.nx n3.1 n3.2 q2) rfl fun σ4 H4 ρ4 Γ4 S4 n4 s4 rg4 q4 => ?_
            exact ⟨ρ4, Γ4, S4, (n2.trans (n3.1.s n3.2)).trans n4, s4, rg4, q4⟩
        · rintro σ H ⟨ρ2, Γ, S, n2, s2, rg2, q2⟩
          rw [List.drop_length] at q2
          unfold loopN at q2
          exact q2 σ H ρ2 (Nxs.refl _ _ _) s2 rg2
  · cases h
theorem s_while (a : AtS X C Φ Φf G W) {c : CE} {bs : List CS} (h : chkS X.N X.env.scope (.while c bs) s = true)
    (hb : ∀ ss, chkSs X.N X.env.scope bs ss = true → PSs X ss (tDS' C W n0 (exSs Φ Φf G fuel n0 bs))) :
    PS X s (tDS' C W n0 (exS Φ Φf G fuel n0 (.while c bs))) := by
  rw [chkS.eq_def] at h
  dsimp only at h
  split at h
  · rename_i t b pos
    obtain ⟨h, h3⟩ := and2 h
    obtain ⟨h1, h2⟩ := and2 h
    refine (ps_while a.po ((sound c X W t a.at_ h2).2.1 h1) (hb _ h3)).mono fun En σ H q => ?_
    obtain ⟨ρ, Γ, S, h0, st, rg, q⟩ := q
    rw [exS] at q
    refine ⟨fun m σ' H' => ∃ ρ' Γ S, Nxs n0 H ρ H' ρ' ∧ StOk C H' ρ' S ∧ RepG C H' ρ' σ' Γ ∧ FinS C W n0 En ρ' H' (whileN (ev Φ G c) (exSs Φ Φf G fuel n0 bs) m Γ S), ⟨fuel, ρ, Γ, S, Nxs.refl _ _ _, st, rg, q⟩, ?_⟩
    rintro m σ1 H1 ⟨ρ1, Γ1, S1, n1, s1, rg1, q1⟩
    cases m with
    | zero => exact q1.elim
    | succ m =>
      unfold whileN at q1
      refine tDT_go s1 rg1 q1 (fun d S' z => ?_) fun b S2 H2 n2 s2 rg2 q2 => ?_
      · cases d with
        | bl b => exact ⟨b, rfl⟩
        | _ => exact absurd rfl z
      · cases b with
        | true =>
          rw [if_pos rfl]
          refine ⟨fun σ' H' => ∃ ρ' Γ S, Nxs n0 H ρ H' ρ' ∧ StOk C H' ρ' S ∧ RepG C H' ρ' σ' Γ ∧ FinS C W n0 En ρ' H' (whileN (ev Φ G c) (exSs Φ Φf G fuel n0 bs) m Γ S), fun σ' H' z => ⟨m, Nat.lt_succ_self _, z⟩, ?_⟩
          refine ⟨ρ1, Γ1, S2, n1.len h0, s2, rg2, ?_⟩
          exact then_fin q2 rfl fun σ4 H4 ρ4 Γ4 S4 n4 s4 rg4 q4 => ⟨ρ4, Γ4, S4, (n1.trans (n2.s s2)).trans n4, s4, rg4, q4⟩
        | false =>
          rw [if_neg (by decide)]
          exact q2 σ1 H2 ρ1 (Nxs.refl _ _ _) s2 rg2
  · cases h
theorem OAt.repD {a : Addr} (hs : ∀ a, a ∈ ρ' → a ∈ ρ) (ha : a ∉ ρ') : ∀ {o : O}, OAt C H ρ a o → RepD C H ρ' (.ref a) (ofO o)
  | .lst _, ⟨xs, h, r⟩ => .lst ⟨h, ha⟩ (r.less hs)
  | .dic _, ⟨kvs, h, q, r⟩ => .dic h ha q (r.less hs)
theorem frz_step {i : Nat} {Γ' : Gam} {S' : Sto} (st : StOk C H ρ S) (rg : RepG C H ρ σ Γ) (h : exS Φ Φf G fuel n0 (.frz i) Γ S = .next Γ' S') : ∃ ρ', Nxs n0 H ρ H ρ' ∧ StOk C H ρ' S' ∧ RepG C H ρ' σ Γ' := by
  rw [exS] at h
  split at h
  · rename_i k e0
    split at h
    · rename_i hk
      split at h
      · rename_i o e1
        cases h
        have hl := st.len
        have hs : ∀ a, a ∈ ρ.cut k → a ∈ ρ := fun a z => Rg.mem_cut z
        refine ⟨ρ.cut k, ⟨⟨fun _ _ h _ => h, fun a z => .inl (hs a z)⟩, fun a z => .inl (List.mem_of_mem_take z), rfl, ?_, fun _ h => h⟩, st.take k, ?_⟩
        · show (ρ.st.take k).take n0 = _
          rw [List.take_take, Nat.min_eq_left hk.2]
        · have hlt : k < ρ.st.length := by omega
          have hout : ρ.st[k] ∉ ρ.cut k := by
            have nd := st.nd
            intro z
            rcases List.mem_append.mp z with z | z
            · have z : ρ.st[k] ∈ ρ.st.take k := z
              obtain ⟨j, hj, e⟩ := List.mem_take_iff_getElem.mp z
              have := (List.nodup_append.mp nd).1
              have e3 := (List.pairwise_iff_getElem.mp this) j k (by omega) hlt (by omega)
              exact e3 e
            · exact (List.nodup_append.mp nd).2.2 _ (List.getElem_mem hlt) _ z rfl
          have hob := st.at_ k ρ.st[k] o (List.getElem?_eq_getElem hlt) e1
          refine ⟨by unfold thaw; rw [List.length_map]; exact rg.len, fun j d q => ?_⟩
          unfold thaw at q
          rw [List.getElem?_map] at q
          cases e2 : Γ[j]? with
          | none => rw [e2] at q; cases q
          | some w =>
            rw [e2] at q
            cases w with
            | none => cases q
            | some d0 =>
              obtain ⟨v, v1, v2⟩ := rg.at_ j d0 e2
              refine ⟨v, v1, ?_⟩
              rcases v2 with v2 | ⟨m, b, rfl, rfl, v3⟩
              · have hd : d = d0 := by
                  cases d0 with
                  | loc m => exact absurd rfl (v2.noloc (k := m))
                  | _ => cases q; rfl
                rw [hd]
                exact .inl (v2.less hs)
              · have q : some (if m = k then some (ofO o) else some (D.loc m)) = some (some d) := q
                have q := Option.some.inj q
                by_cases hm : m = k
                · rw [if_pos hm] at q
                  have q := Option.some.inj q
                  subst q
                  subst hm
                  rw [List.getElem?_eq_getElem hlt] at v3
                  cases v3
                  exact .inl (OAt.repD hs hout hob)
                · rw [if_neg hm] at q
                  have q := Option.some.inj q
                  subst q
                  refine .inr ⟨m, b, rfl, rfl, ?_⟩
                  show (ρ.st.take k)[m]? = some b
                  have := (List.getElem?_eq_some_iff.mp v3).1
                  rw [List.getElem?_take_of_lt (by omega)]
                  exact v3
      · cases h
    · cases h
  · cases h
theorem finS_any {W W' : WX} {r : SR} (hr : ∀ c d Γ S, r ≠ .ex c d Γ S) (h : FinS C W n0 En ρ H r) : FinS C W' n0 En ρ H r := by
  cases r with
  | next _ _ => exact h
  | ret _ _ _ => exact h
  | bad => exact h
  | ex c d Γ S => exact absurd rfl (hr c d Γ S)
theorem s_try (a : AtS X C Φ Φf G W) {x : Str} {body : List CS} (h : chkS X.N X.env.scope (.tryR x body) s = true)
    (ih : ∀ (W' : WX) (pn : List (Addr × Obj)) (xe : Value → Shared → Prop), AtS (X.tr pn xe) C Φ Φf G W' → ∀ ss, chkSs X.N X.env.scope body ss = true → PSs (X.tr pn xe) ss (tDS' C W' n0 (exSs Φ Φf G fuel n0 body))) :
    PS X s (tDS' C W n0 (exS Φ Φf G fuel n0 (.tryR x body))) := by
  rw [chkS.eq_def] at h
  dsimp only at h
  split at h
  · rename_i b y np b0 rest p1 p2
    obtain ⟨h, h3⟩ := and2 h
    obtain ⟨h1, h2⟩ := and2 h
    rw [decide_eq_true_iff] at h1
    subst h1
    obtain ⟨g1, g2, g3⟩ := gl_of h2
    cases hG : G y with
    | none => exact ps_never.mono fun En σ H ⟨ρ, Γ, S, _, _, _, q⟩ => by rw [exS, hG] at q; exact q
    | some d =>
      cases d with
      | fn z =>
        obtain ⟨u, v, hm, rv, rd⟩ := a.at_.glob y _ hG
        obtain ⟨f, e1, e2⟩ : ∃ f, v = .ref f ∧ u = .ref f := by
          have r := rd (fun _ => none) ⟨[], []⟩
          cases r with
          | fn hz => cases rv; exact ⟨_, rfl, rfl⟩
        subst e2
        refine (ps_try_only (X := X) (c := .ref f) (tb := fun W' => tDS' C W' n0 (exSs Φ Φf G fuel n0 body)) (ts := fun _ _ _ _ _ _ => False) (Wout := W) a.hs a.hf ⟨g1, g2, .inl hm⟩ a.at_.tk
          (fun W' pn xe tk po => ih W' pn xe ⟨⟨a.at_.hK, a.at_.hmg, a.at_.calm, a.at_.nd, a.at_.units, a.at_.blt, a.at_.glob, a.at_.fns, a.at_.gd, a.at_.tabs, tk⟩, a.fnsF, a.fn, a.kind, po, a.hs, a.hf⟩ b h3)
          (fun _ _ _ _ _ _ _ => ⟨fun _ _ _ _ _ _ z => z.elim⟩)).mono fun En σ H ⟨ρ, Γ, S, h0, st, rg, q⟩ => ?_
        refine ⟨ρ, Γ, S, h0, st, rg, ?_⟩
        rw [exS, hG] at q
        dsimp only at q
        cases e : exSs Φ Φf G fuel n0 body Γ S with
        | next Γ' S' => rw [e] at q; exact finS_any (by intro _ _ _ _ z; cases z) q
        | ret d S' fr => rw [e] at q; exact finS_any (by intro _ _ _ _ z; cases z) q
        | ex c d Γ' S' => rw [e] at q; exact q.elim
        | bad => rw [e] at q; exact q.elim
      | _ => exact ps_never.mono fun En σ H ⟨ρ, Γ, S, _, _, _, q⟩ => by rw [exS, hG] at q; exact q
  · cases h
theorem chkSs_cons {N : List Str} {sc : Scope} {c : CS} {cs : List CS} {ss : List Stmt} (hf : ∀ i, c ≠ .frz i) (h : chkSs N sc (c :: cs) ss = true) : ∃ s ss', ss = s :: ss' ∧ chkS N sc c s = true ∧ chkSs N sc cs ss' = true := by
  cases ss with
  | nil => cases c <;> first | (rw [chkSs.eq_def] at h; cases h; done) | (rename_i i; exact absurd rfl (hf i))
  | cons s ss => cases c <;> first | (rw [chkSs.eq_def] at h; exact ⟨s, ss, rfl, (and2 h).1, (and2 h).2⟩) | (rename_i i; exact absurd rfl (hf i))
mutual
theorem soundS : ∀ (c : CS) (X : Cx) (W : WX) (a : AtS X C Φ Φf G W) (s : Stmt), chkS X.N X.env.scope c s = true → PS X s (tDS' C W n0 (exS Φ Φf G fuel n0 c))
  | .set tg e, X, W, a, s, h => weak (s_set a h)
  | .par is es, X, W, a, s, h => s_par a h
  | .own i e, X, W, a, s, h => s_own a h
  | .app i e, X, W, a, s, h => weak (s_app a h)
  | .putL i k e, X, W, a, s, h => weak (s_putL a h)
  | .putD i k e, X, W, a, s, h => weak (s_putD a h)
  | .exp e, X, W, a, s, h => weak (s_exp a h)
  | .ret e, X, W, a, s, h => weak (s_ret a h)
  | .retF e, X, W, a, s, h => weak (s_retF a h)
  | .ite c p q, X, W, a, s, h => s_ite a h (fun ss => soundSs p X W a ss) (fun ss => soundSs q X W a ss)
  | .loop tg ik ia b, X, W, a, s, h => s_loop a h (fun ss => soundSs b X W a ss)
  | .while c b, X, W, a, s, h => s_while a h (fun ss => soundSs b X W a ss)
  | .never, X, W, a, s, h => ps_never.mono fun En σ H ⟨ρ, Γ, S, _, _, _, q⟩ => by rw [exS] at q; exact q
  | .pass, X, W, a, s, h => by
    rw [chkS.eq_def] at h
    dsimp only at h
    split at h
    · refine ps_pass.mono fun En σ H ⟨ρ, Γ, S, _, st, rg, q⟩ => ?_
      rw [exS] at q
      exact q σ H ρ (Nxs.refl _ _ _) st rg
    · cases h
  | .tryR x body, X, W, a, s, h => s_try a h fun W' pn xe a' ss hh => soundSs body (X.tr pn xe) W' a' ss hh
  | .frz i, X, W, a, s, h => by cases h
theorem soundSs : ∀ (cs : List CS) (X : Cx) (W : WX) (a : AtS X C Φ Φf G W) (ss : List Stmt), chkSs X.N X.env.scope cs ss = true → PSs X ss (tDS' C W n0 (exSs Φ Φf G fuel n0 cs))
  | [], X, W, a, ss, h => by
    rw [chkSs.eq_def] at h
    cases ss with
    | cons _ _ => cases h
    | nil =>
      refine pss_nil.mono fun En σ H ⟨ρ, Γ, S, _, st, rg, q⟩ => ?_
      rw [exSs] at q
      exact q σ H ρ (Nxs.refl _ _ _) st rg
  | c :: cs, X, W, a, ss, h => by
    by_cases hf : ∃ i, c = .frz i
    · obtain ⟨i, rfl⟩ := hf
      rw [chkSs.eq_def] at h
      refine (soundSs cs X W a ss h).mono fun En σ H ⟨ρ, Γ, S, h0, st, rg, q⟩ => ?_
      rw [exSs] at q
      cases e : exS Φ Φf G fuel n0 (.frz i) Γ S with
      | next Γ' S' =>
        rw [e] at q
        obtain ⟨ρ', n, s, g⟩ := frz_step st rg e
        exact ⟨ρ', Γ', S', n.len h0, s, g, FinS.nxs n q⟩
      | bad => rw [e] at q; exact q.elim
      | ret d S1 fr => rw [exS] at e; split at e <;> (first | cases e | (split at e <;> (first | cases e | (split at e <;> cases e))))
      | ex c d Γ1 S1 => rw [exS] at e; split at e <;> (first | cases e | (split at e <;> (first | cases e | (split at e <;> cases e))))
    · obtain ⟨s, ss, rfl, h1, h2⟩ := chkSs_cons (fun i z => hf ⟨i, z⟩) h
      refine (pss_cons (soundS c X W a s h1) (soundSs cs X W a ss h2)).mono fun En σ H ⟨ρ, Γ, S, h0, st, rg, q⟩ => ?_
      rw [exSs] at q
      exact ⟨ρ, Γ, S, h0, st, rg, then_fin q rfl fun σ' H' ρ' Γ' S' n s g q => ⟨ρ', Γ', S', n.len h0, s, g, q⟩⟩
end
end
end EK

set_option Elab.async false
set_option linter.all false
set_option maxRecDepth 100000
set_option maxHeartbeats 4000000
namespace EK
open PySem L2 PySem.Spec PyProof.Rows
/-! ### a def and what it does -/
def outD (n0 : Nat) (S : Sto) : D → D
  | .loc k => if k < n0 then .loc k else match S[k]? with
    | some o => ofO o
    | none => .non
  | d => d
def outR (n0 : Nat) : SR → R
  | .next _ S => .ok .non (S.take n0)
  | .ret d S _ => .ok (outD n0 S d) (S.take n0)
  | .ex c d _ S => .ex c d (S.take n0)
  | .bad => .bad
def outF (n0 : Nat) : SR → R
  | .ret d S true => .ok d (S.take n0)
  | .ex c d _ S => .ex c d (S.take n0)
  | _ => .bad
@[simp] def gam0 (m : Nat) (ds : List D) : Gam := ds.map some ++ List.replicate (m - ds.length) none
@[simp] def fsem (Φ Φf : Str → Option Fsem) (G : Str → Option D) (fuel np m : Nat) (body : List CS) : Fsem := fun ds S =>
  if ds.length = np then outR S.length (exSs Φ Φf G fuel S.length body (gam0 m ds) S) else .bad
@[simp] def fsemF (Φ Φf : Str → Option Fsem) (G : Str → Option D) (fuel np m : Nat) (body : List CS) : Fsem := fun ds S =>
  if ds.length = np then outF S.length (exSs Φ Φf G fuel S.length body (gam0 m ds) S) else .bad
structure Lev (P : Program) (w : World) (C : Ct) (base : Heap) (k : Nat) (Φ Φf : Str → Option Fsem) (G : Str → Option D) : Prop where
  tabs : Tabs C.K w C
  blt : ∀ x, x ∈ bltNames → C.mg x = none
  glob : ∀ x d, G x = some d → ∃ u v, C.mg x = some u ∧ RelV v u ∧ ∀ H ρ, RepD C H ρ v d
  fns : ∀ x F, Φ x = some F → ∃ (f : Addr) (fd : FuncData) (ps : List Str), C.mg x = some (.ref f) ∧ PySem.W.keepIn C.K (.ref f) = true ∧ BindsX C.K fd ps x ∧ FnG P w C.K C.mg base (L2.CX P w) k f fd ps (spD C F)
  fnsF : ∀ x F, Φf x = some F → ∃ (f : Addr) (fd : FuncData) (ps : List Str), C.mg x = some (.ref f) ∧ PySem.W.keepIn C.K (.ref f) = true ∧ Binds C.K fd ps [] ∧ FnG P w C.K C.mg base (L2.CX P w) k f fd ps (spF C F)
section
variable {P : Program} {w : World} {C : Ct} {base : Heap} {k : Nat} {Φ Φf : Str → Option Fsem} {G : Str → Option D} {H H' : Hp} {ρ ρ' : Rg} {S S' : Sto}
theorem paired_len {α β : Type} {F : α → β → Prop} : ∀ {xs : List α} {ys : List β}, Paired F xs ys → xs.length = ys.length
  | _, _, .nil => rfl
  | _, _, .cons _ r => congrArg Nat.succ (paired_len r)
theorem paired_get {α β : Type} {F : α → β → Prop} : ∀ {xs : List α} {ys : List β} {i : Nat} {y : β}, Paired F xs ys → ys[i]? = some y → ∃ x, xs[i]? = some x ∧ F x y
  | _, _, _, _, .nil, h => by simp at h
  | _, _, 0, _, .cons a _, h => by
    simp at h; subst h
    exact ⟨_, rfl, a⟩
  | _, _, i + 1, _, .cons _ r, h => by
    simp at h
    obtain ⟨x, e, q⟩ := paired_get r h
    exact ⟨x, by simpa using e, q⟩
theorem repG_start {N : List Str} {vs : List V} {ds : List D} (h : Paired (Rep C H ρ) vs ds) : RepG C H ρ (L2.start N vs) (gam0 N.length ds) := by
  have hl := paired_len h
  unfold L2.start gam0
  refine ⟨by simp [hl], fun i d e => ?_⟩
  by_cases hi : i < ds.length
  · rw [List.getElem?_append_left (by simpa using hi), List.getElem?_map] at e
    rw [List.getElem?_append_left (by simpa [hl] using hi), List.getElem?_map]
    cases e1 : ds[i]? with
    | none => rw [e1] at e; cases e
    | some d' =>
      rw [e1] at e
      cases e
      obtain ⟨x, e2, q⟩ := paired_get h e1
      exact ⟨x, by rw [e2]; rfl, q⟩
  · rw [List.getElem?_append_right (by simpa using Nat.le_of_not_lt hi), List.getElem?_replicate] at e
    split at e <;> cases e
theorem Nxs.cut {n0 : Nat} (n : Nxs n0 H ρ H' ρ') (h0 : n0 = ρ.st.length) : ρ'.cut n0 = ρ := by
  have e1 := n.pre
  subst h0
  rw [List.take_length] at e1
  have e2 := n.ex
  unfold Rg.cut
  rw [e1, e2]
theorem Nxs.back {n0 : Nat} (n : Nxs n0 H ρ H' ρ') : Nx H ρ H' ρ := ⟨n.nx.kp, fun _ z => .inl z⟩
theorem cut_loc {n0 k : Nat} (s : StOk C H ρ S) {a : Addr} (hk : n0 ≤ k) (h : ρ.st[k]? = some a) : a ∉ ρ.cut n0 := by
  intro z
  obtain ⟨hlt, rfl⟩ := List.getElem?_eq_some_iff.mp h
  rcases List.mem_append.mp z with z | z
  · have z : ρ.st[k] ∈ ρ.st.take n0 := z
    obtain ⟨j, hj, e⟩ := List.mem_take_iff_getElem.mp z
    have := (List.nodup_append.mp s.nd).1
    exact (List.pairwise_iff_getElem.mp this) j k (by omega) hlt (by omega) e
  · exact (List.nodup_append.mp s.nd).2.2 _ (List.getElem_mem hlt) _ z rfl
/-- what is handed back, seen by the caller -/
theorem out_rep {n0 : Nat} {v : V} {d : D} (s : StOk C H ρ S) (r : Rep C H ρ v d) : Rep C H (ρ.cut n0) v (outD n0 S d) := by
  have hs : ∀ a, a ∈ ρ.cut n0 → a ∈ ρ := fun a z => Rg.mem_cut z
  rcases r with r | ⟨k, a, rfl, rfl, e⟩
  · have : outD n0 S d = d := by
      cases d with
      | loc m => exact absurd rfl (r.noloc (k := m))
      | _ => rfl
    rw [this]
    exact .inl (r.less hs)
  · show Rep C H (ρ.cut n0) (.ref a) (if k < n0 then .loc k else match S[k]? with | some o => ofO o | none => .non)
    by_cases hk : k < n0
    · rw [if_pos hk]
      refine .inr ⟨k, a, rfl, rfl, ?_⟩
      show (ρ.st.take n0)[k]? = some a
      rw [List.getElem?_take_of_lt hk]
      exact e
    · rw [if_neg hk]
      have hlt := (List.getElem?_eq_some_iff.mp e).1
      have hl := s.len
      have e2 : S[k]? = some S[k] := List.getElem?_eq_getElem (by omega)
      rw [e2]
      exact .inl (OAt.repD hs (cut_loc s (by omega) e) (s.at_ k a _ e e2))
theorem New.cut {n0 : Nat} {H0 : Hp} {v : V} {d : D} (h : New C H0 H ρ S v d) : New C H0 H (ρ.cut n0) (S.take n0) v d := by
  obtain ⟨p, o, e1, e2, e3, e4, e5⟩ := h
  exact ⟨p, o, e1, e2, e3, e4.take n0, e5.less fun a z => Rg.mem_cut (ρ := ρ.keep p) (n := n0) z⟩
theorem atS (l : Lev P w C base k Φ Φf G) {N ps : List Str} {qual : Str} {scope : Scope} {f : Addr} {cdv : Value} {A : Around} {outer : List Env} {s : Shared} {H : Hp} {E : XK} (sc : FnScope N ps scope) (hr : Rm k (A.deeper (envOfC qual scope s.heap.objs.size f cdv))) :
    AtS (cxOf (L2.CX P w) P w C.K C.mg base N qual scope f cdv A outer s H E) C Φ Φf G (fun cls d _ H => E cls d H) := by
  refine ⟨⟨rfl, rfl, rfl, sc.nd, ?_, l.blt, l.glob, fun x F h => ?_, hr.gd, l.tabs, takes_of rfl rfl rfl rfl⟩, fun x F h => ?_, fun _ => rfl, sc.kind, passes_of rfl, rfl, rfl⟩
  · have := hr.rm.un
    show (A.deeper (envOfC qual scope s.heap.objs.size f cdv)).units + 65 < cLine
    omega
  · obtain ⟨f, fd, ps, h1, h2, h3, h4⟩ := l.fns x F h
    exact ⟨f, fd, ps, k, h1, h2, h3, h4, hr⟩
  · obtain ⟨f, fd, ps, h1, h2, h3, h4⟩ := l.fnsF x F h
    exact ⟨f, fd, ps, k, h1, h2, h3, h4, hr⟩
/-- THE RULE for a def -/
theorem fn_ok (l : Lev P w C base k Φ Φf G) {N ps : List Str} {x qual : Str} {params : Arguments} {body : List Stmt} {scope : Scope} {f : Addr} {fd : FuncData} (F : FunD C.K x qual params body scope [] [] f fd) (sc : FnScope N ps scope) (fuel : Nat) {cs : List CS} (h : chkSs N scope cs body = true) :
    FnG P w C.K C.mg base (L2.CX P w) (k + 1) f fd ps (spD C (fsem Φ Φf G fuel ps.length N.length cs)) := by
  refine F.okG sc (fun vs H Q E z => ?_) fun cdv A outer s H vs Q E hr z => ?_
  · obtain ⟨ds, ρ, S, st, pa, q⟩ := z
    unfold fsem at q
    split at q
    · rename_i e; rw [paired_len pa, e]
    · exact q.elim
  · obtain ⟨ds, ρ, S, st, pa, q⟩ := z
    refine ⟨_, soundSs (n0 := S.length) (fuel := fuel) cs _ _ (atS l sc hr) body h, ρ, gam0 N.length ds, S, Nat.le_of_eq st.len.symm, st, repG_start pa, ?_⟩
    unfold fsem at q
    split at q
    · cases e : exSs Φ Φf G fuel S.length cs (gam0 N.length ds) S with
      | bad => rw [e] at q; exact q
      | next Γ' S' =>
        rw [e] at q
        intro σ' H' ρ' n s' g
        have hc := n.cut st.len.symm
        exact q .non H' n.back (by rw [← hc]; exact s'.take _) (.inl .non)
      | ret d S' fr =>
        rw [e] at q
        intro v H' ρ' n s' r _
        have hc := n.cut st.len.symm
        exact q v H' n.back (by rw [← hc]; exact s'.take _) (by rw [← hc]; exact out_rep s' r)
      | ex c d Γ' S' =>
        rw [e] at q
        intro Ca dd v σ' H' ρ' m n s' g w nd r
        have hc := n.cut st.len.symm
        exact q Ca dd v H' m n.back (by rw [← hc]; exact s'.take _) w (by rw [← hc]; exact fun z => nd (Rg.mem_cut z)) (by rw [← hc]; exact r.less fun a z => Rg.mem_cut z)
    · exact q.elim
/-- .. that hands back a new object -/
theorem fn_okF (l : Lev P w C base k Φ Φf G) {N ps : List Str} {x qual : Str} {params : Arguments} {body : List Stmt} {scope : Scope} {f : Addr} {fd : FuncData} (F : FunD C.K x qual params body scope [] [] f fd) (sc : FnScope N ps scope) (fuel : Nat) {cs : List CS} (h : chkSs N scope cs body = true) :
    FnG P w C.K C.mg base (L2.CX P w) (k + 1) f fd ps (spF C (fsemF Φ Φf G fuel ps.length N.length cs)) := by
  refine F.okG sc (fun vs H Q E z => ?_) fun cdv A outer s H vs Q E hr z => ?_
  · obtain ⟨ds, ρ, S, st, pa, q⟩ := z
    unfold fsemF at q
    split at q
    · rename_i e; rw [paired_len pa, e]
    · exact q.elim
  · obtain ⟨ds, ρ, S, st, pa, q⟩ := z
    refine ⟨_, soundSs (n0 := S.length) (fuel := fuel) cs _ _ (atS l sc hr) body h, ρ, gam0 N.length ds, S, Nat.le_of_eq st.len.symm, st, repG_start pa, ?_⟩
    unfold fsemF at q
    split at q
    · cases e : exSs Φ Φf G fuel S.length cs (gam0 N.length ds) S with
      | bad => rw [e] at q; exact q
      | next Γ' S' => rw [e] at q; exact q.elim
      | ret d S' fr =>
        rw [e] at q
        cases fr with
        | false => exact q.elim
        | true =>
          intro v H' ρ' n s' r nw
          have hc := n.cut st.len.symm
          have nw := (nw rfl).cut (n0 := S.length)
          rw [hc] at nw
          refine q v H' n.back (by rw [← hc]; exact s'.take _) ?_ nw
          rcases r with r | ⟨k, a, rfl, rfl, _⟩
          · rw [← hc]; exact r.less fun a z => Rg.mem_cut z
          · obtain ⟨_, _, _, z, _⟩ := nw
            cases z
      | ex c d Γ' S' =>
        rw [e] at q
        intro Ca dd v σ' H' ρ' m n s' g w nd r
        have hc := n.cut st.len.symm
        exact q Ca dd v H' m n.back (by rw [← hc]; exact s'.take _) w (by rw [← hc]; exact fun z => nd (Rg.mem_cut z)) (by rw [← hc]; exact r.less fun a z => Rg.mem_cut z)
    · exact q.elim
/-! ### defs, one behind another -/
def put (Φ : Str → Option Fsem) (x : Str) (F : Fsem) : Str → Option Fsem := fun y => if y = x then some F else Φ y
/-- by names, where the table has it -/
theorem FunD.bindsX {K : PySem.W.Frag} {x qual : Str} {params : Arguments} {body : List Stmt} {scope : Scope} {f : Addr} {fd : FuncData} {ps : List Str} (F : FunD K x qual params body scope [] [] f fd) (b : Binds K fd ps [])
    (h : ∀ ks, kwT.lookup x = some ks → ∀ (kV doc pm : Value) (an : Option Addr) (cdv ct : Value) (us : List Value), us.length = ps.length → bindArgs (PySem.W.fnOf x qual params body scope .none kV doc pm an cdv ct) ⟨[], ks.zip us⟩ = pure (ps.zip us)) : BindsX K fd ps x := by
  obtain ⟨oc, od, dV, kV, doc, pm, an, cdv, ct, osl, rfl, lk, hcd, hD, hK⟩ := F.ex
  rcases hD with ⟨_, rfl⟩ | ⟨e, _⟩
  · exact ⟨b, fun ks hk s ws _ hl => .of_eq (h ks hk kV doc pm an cdv ct ws hl)⟩
  · exact absurd rfl e
theorem FunD.bindsX0 {K : PySem.W.Frag} {fd : FuncData} {ps : List Str} {x : Str} (b : Binds K fd ps []) (h : kwT.lookup x = none) : BindsX K fd ps x := ⟨b, fun ks hk => by rw [h] at hk; cases hk⟩
theorem Lev.put (l : Lev P w C base k Φ Φf G) {N ps : List Str} {x qual : Str} {params : Arguments} {body : List Stmt} {scope : Scope} {f : Addr} {fd : FuncData} (F : FunD C.K x qual params body scope [] [] f fd) (hm : C.mg x = some (.ref f)) (hb : BindsX C.K fd ps x) (sc : FnScope N ps scope) (fuel : Nat) (cs : List CS) (h : chkSs N scope cs body = true) :
    Lev P w C base (k + 1) (EK.put Φ x (fsem Φ Φf G fuel ps.length N.length cs)) Φf G := by
  refine ⟨l.tabs, l.blt, l.glob, fun y F' e => ?_, fun y F' e => ?_⟩
  · unfold EK.put at e
    split at e
    · rename_i hy
      cases e
      subst hy
      exact ⟨f, fd, ps, hm, F.kp, hb, fn_ok l F sc fuel h⟩
    · obtain ⟨f, fd, ps, h1, h2, h3, h4⟩ := l.fns y F' e
      exact ⟨f, fd, ps, h1, h2, h3, h4.mono (Nat.le_succ _)⟩
  · obtain ⟨f, fd, ps, h1, h2, h3, h4⟩ := l.fnsF y F' e
    exact ⟨f, fd, ps, h1, h2, h3, h4.mono (Nat.le_succ _)⟩
theorem Lev.putF (l : Lev P w C base k Φ Φf G) {N ps : List Str} {x qual : Str} {params : Arguments} {body : List Stmt} {scope : Scope} {f : Addr} {fd : FuncData} (F : FunD C.K x qual params body scope [] [] f fd) (hm : C.mg x = some (.ref f)) (hb : Binds C.K fd ps []) (sc : FnScope N ps scope) (fuel : Nat) (cs : List CS) (h : chkSs N scope cs body = true) :
    Lev P w C base (k + 1) Φ (EK.put Φf x (fsemF Φ Φf G fuel ps.length N.length cs)) G := by
  refine ⟨l.tabs, l.blt, l.glob, fun y F' e => ?_, fun y F' e => ?_⟩
  · obtain ⟨f, fd, ps, h1, h2, h3, h4⟩ := l.fns y F' e
    exact ⟨f, fd, ps, h1, h2, h3, h4.mono (Nat.le_succ _)⟩
  · unfold EK.put at e
    split at e
    · rename_i hy
      cases e
      subst hy
      exact ⟨f, fd, ps, hm, F.kp, hb, fn_okF l F sc fuel h⟩
    · obtain ⟨f, fd, ps, h1, h2, h3, h4⟩ := l.fnsF y F' e
      exact ⟨f, fd, ps, h1, h2, h3, h4.mono (Nat.le_succ _)⟩
theorem repA_ints : ∀ ns : List Int, RepA C H ρ (ns.map V.int) (ns.map D.int)
  | [] => .nil
  | n :: ns => .cons (.int n) (repA_ints ns)
theorem free_of {h : Heap} {mg : Str → Option Value} {K : PySem.W.Frag} {fa1 fa3 : List He.Fa} {fn : List He.DefD} (X : K.In h) (Gx : h.Ns mainGlobals mg) (c : He.SaysD (fa1 ++ (bltNames.map He.Fa.free ++ fa3)) fn K) (x : Str) (hx : x ∈ bltNames) : mg x = none := by
  have hm : He.Fa.free x ∈ fa1 ++ (bltNames.map He.Fa.free ++ fa3) := List.mem_append_right _ (List.mem_append_left _ (List.mem_map_of_mem hx))
  obtain ⟨i, e⟩ := List.mem_iff_getElem?.mp hm
  exact He.free_ok X Gx (c.fact i e)
/-- a def that lets nothing out -/
theorem FnG.calm {F : Fsem} {f : Addr} {fd : FuncData} {ps : List Str} (h : FnG P w C.K C.mg base (L2.CX P w) k f fd ps (spD C F)) : FnG P w C.K C.mg base CX0 k f fd ps (fun vs H Q _ => spD C F vs H Q fun _ _ _ => False) := by
  refine ⟨fun vs H Q E z => h.lng vs H Q _ z, fun A outer s H args us vs Q E hr he hb hv z => codeAny_mono (h.go A outer s H args us vs Q _ hr he hb hv z) fun r s' q => ?_⟩
  match r, q with
  | .ok (.ret u), q => exact q
  | .error e, q =>
    obtain ⟨_, _, _, _, _, _, _, _, _, _, _, _, z⟩ := q
    exact z.elim
/-- the law's def answers True -/
theorem law_sp {F : Fsem} {ns : List Int} (hF : ∃ S, F [.frz (ns.map .int)] [] = .ok (.bl true) S) {H : Hp} {a : Addr} (hS : SqL C.K H a (ns.map V.int)) : spD C F [.ref a] H (fun v _ => v = .bl true) fun _ _ _ => False := by
  obtain ⟨S, e⟩ := hF
  refine ⟨[.frz (ns.map .int)], ⟨[], []⟩, [], ⟨rfl, List.nodup_nil, fun k a o h => by simp at h, fun a h => by cases h⟩, .cons (.inl (.frz ?_ (repA_ints ns))) .nil, ?_⟩
  · rcases hS with h | h
    · exact .inl ⟨h, fun z => by cases z⟩
    · exact .inr h
  · rw [e]
    intro v H' n s r
    rcases r with r | ⟨_, _, z, _⟩
    · cases r; rfl
    · cases z
end
end EK

set_option Elab.async false
set_option linter.all false
set_option maxRecDepth 100000
set_option maxHeartbeats 4000000
namespace EK
open PySem L2 PySem.Spec PyProof.Rows
/-! ### constants of the module, as they stand behind its top -/
mutual
def repK (K : PySem.W.Frag) : D → Value → Bool
  | .non, u => (match u with | .none => true | _ => false)
  | .bl b, u => (match u with | .bool c => b == c | _ => false)
  | .int i, u => (match u with | .int j _ => decide (i = j) | _ => false)
  | .str s, u => (match u with | .str x _ => decide (x = ⟨s.toArray⟩) | _ => false)
  | .tup ds, u => (match u with
    | .ref a => (match K.lookup a with
      | some ⟨.type c, _, .seq its _, _⟩ => decide (c = "tuple") && (Nat.ble its.size 1000 && repKA K ds its.toList)
      | _ => false)
    | _ => false)
  | _, _ => false
def repKA (K : PySem.W.Frag) : List D → List Value → Bool
  | [], us => us.isEmpty
  | d :: ds, us => (match us with | u :: r => repK K d u && repKA K ds r | [] => false)
end
section
variable {K : PySem.W.Frag} {mg : Str → Option Value} {fl : Str → Str}
mutual
theorem repK_ok : ∀ {d : D} {u : Value}, repK K d u = true → ∃ v, RelV v u ∧ ∀ H ρ, RepD ⟨K, mg, fl⟩ H ρ v d
  | .non, u, h => by
    cases u with
    | none => exact ⟨.non, rfl, fun _ _ => .non⟩
    | _ => cases h
  | .bl b, u, h => by
    cases u with
    | bool c =>
      have e : b = c := by simpa [repK] using h
      subst e
      exact ⟨.bl b, rfl, fun _ _ => .bl b⟩
    | _ => cases h
  | .int i, u, h => by
    cases u with
    | int j t =>
      have e : i = j := by simpa [repK] using h
      subst e
      exact ⟨.int i, ⟨_, rfl⟩, fun _ _ => .int i⟩
    | _ => cases h
  | .str s, u, h => by
    cases u with
    | str x t =>
      have e : x = ⟨s.toArray⟩ := by simpa [repK] using h
      subst e
      exact ⟨.str ⟨s.toArray⟩, ⟨_, rfl⟩, fun _ _ => .str s⟩
    | _ => cases h
  | .tup ds, u, h => by
    cases u with
    | ref a =>
      rw [repK] at h
      cases q : K.lookup a with
      | none => rw [q] at h; cases h
      | some o =>
        obtain ⟨oc, od, dt, osl⟩ := o
        rw [q] at h
        cases oc with
        | type c =>
          cases dt with
          | seq its n =>
            dsimp only at h
            rw [Bool.and_eq_true, Bool.and_eq_true] at h
            obtain ⟨h1, h2, h3⟩ := h
            obtain ⟨vs, r1, r2⟩ := repKA_ok h3
            have sz : its.size ≤ sizeLine := Nat.le_trans (Nat.le_of_ble_eq_true h2) (by decide)
            exact ⟨.ref a, rfl, fun H ρ => .tup (.inr ⟨_, its, n, q, congrArg Value.type (of_decide_eq_true h1), rfl, sz, r1⟩) (r2 H ρ)⟩
          | _ => cases h
        | _ => cases h
    | _ => cases h
  | .lst _, u, h => by cases u <;> cases h
  | .dic _, u, h => by cases u <;> cases h
  | .fn _, u, h => by cases u <;> cases h
  | .loc _, u, h => by cases u <;> cases h
  | .frz _, u, h => by cases u <;> cases h
theorem repKA_ok : ∀ {ds : List D} {us : List Value}, repKA K ds us = true → ∃ vs, Vals vs us ∧ ∀ H ρ, RepA ⟨K, mg, fl⟩ H ρ vs ds
  | [], us, h => by
    cases us with
    | nil => exact ⟨[], .nil, fun _ _ => .nil⟩
    | cons _ _ => cases h
  | d :: ds, us, h => by
    cases us with
    | nil => cases h
    | cons u r =>
      rw [repKA] at h
      rw [Bool.and_eq_true] at h
      obtain ⟨v, a1, a2⟩ := repK_ok h.1
      obtain ⟨vs, b1, b2⟩ := repKA_ok h.2
      exact ⟨v :: vs, .cons a1 b1, fun H ρ => .cons (a2 H ρ) (b2 H ρ)⟩
end
end
def fnB (x : Str) : D → Bool
  | .fn y => decide (x = y)
  | _ => false
def refB : Value → Bool
  | .ref _ => true
  | _ => false
def conK (K : PySem.W.Frag) (x : Str) (d : D) : Bool := match PySem.W.nsIn K mainGlobals x with
  | some (some u) => repK K d u || (fnB x d && refB u)
  | _ => false
def consK (Gt : List (Str × D)) (K : PySem.W.Frag) : Bool := Gt.all fun p => conK K p.1 p.2
theorem consK_ok {K : PySem.W.Frag} {h : Heap} {mg : Str → Option Value} {fl : Str → Str} {Gt : List (Str × D)} (X : K.In h) (Gx : h.Ns mainGlobals mg) (c : consK Gt K = true) :
    ∀ x d, Gt.lookup x = some d → ∃ u v, mg x = some u ∧ RelV v u ∧ ∀ H ρ, RepD ⟨K, mg, fl⟩ H ρ v d := by
  intro x d e
  have m : (x, d) ∈ Gt := by
    clear c
    induction Gt with
    | nil => cases e
    | cons p r ih =>
      obtain ⟨y, z⟩ := p
      rw [List.lookup_cons] at e
      by_cases q : (x == y) = true
      · rw [q] at e
        cases e
        rw [beq_iff_eq.mp q]
        exact List.mem_cons_self ..
      · rw [Bool.not_eq_true] at q
        rw [q] at e
        exact List.mem_cons_of_mem _ (ih e)
  have c := List.all_eq_true.mp c _ m
  unfold conK at c
  dsimp only at c
  cases q : PySem.W.nsIn K mainGlobals x with
  | none => rw [q] at c; cases c
  | some o =>
    cases o with
    | none => rw [q] at c; cases c
    | some u =>
      rw [q] at c
      dsimp only at c
      rw [Bool.or_eq_true] at c
      rcases c with c | c
      · obtain ⟨v, r1, r2⟩ := repK_ok (mg := mg) (fl := fl) c
        exact ⟨u, v, PySem.W.mg_of X Gx q, r1, r2⟩
      · rw [Bool.and_eq_true] at c
        have hm := PySem.W.mg_of X Gx q
        cases d with
        | fn y =>
          have e1 : x = y := of_decide_eq_true c.1
          subst e1
          cases u with
          | ref a => exact ⟨.ref a, .ref a, hm, rfl, fun H ρ => .fn hm⟩
          | _ => cases c.2
        | _ => cases c.1
/-! ### dicts of the module -/
def tabV (K : PySem.W.Frag) (x : Str) : Bool := match mdT.lookup x with
  | some es => es.all fun p => match PySem.W.nsIn K (He.ga K x) p.1 with
    | some (some u) => repK K p.2 u
    | _ => false
  | none => false
def tabR (K : PySem.W.Frag) (x : Str) : Bool := match PySem.W.nsIn K mainGlobals x with
  | some (some u) => refB u
  | _ => false
def tabKs (x : Str) : List Str := match mdT.lookup x with
  | some es => es.map (·.1)
  | none => []
theorem mem_lookup {β : Type} : ∀ {l : List (Str × β)} {x : Str} {d : β}, l.lookup x = some d → (x, d) ∈ l
  | [], _, _, e => by cases e
  | (y, z) :: r, x, d, e => by
    rw [List.lookup_cons] at e
    by_cases q : (x == y) = true
    · rw [q] at e
      cases e
      rw [beq_iff_eq.mp q]
      exact List.mem_cons_self ..
    · rw [Bool.not_eq_true] at q
      rw [q] at e
      exact List.mem_cons_of_mem _ (mem_lookup e)
theorem tab_ok {K : PySem.W.Frag} {w : World} {h : Heap} {mg : Str → Option Value} {fl : Str → Str} (X : K.In h) (Gx : h.Ns mainGlobals mg) {x : Str} {es : List (Str × D)} {a : Addr} (e : mdT.lookup x = some es) (hm : mg x = some (.ref a))
    (c1 : He.dicW K (He.ga K x) = some (He.keysIn w.params (tabKs x))) (c2 : tabV K x = true) (c3 : tabR K x = true) :
    ∃ ds n, KDict K w a ds n ∧ ∀ z d, es.lookup z = some d → ∃ u v, PySem.W.nsIn K a z = some (some u) ∧ RelV v u ∧ ∀ H ρ, RepD ⟨K, mg, fl⟩ H ρ v d := by
  have ga : He.ga K x = a := by
    unfold tabR at c3
    unfold He.ga
    cases q : PySem.W.nsIn K mainGlobals x with
    | none => rw [q] at c3; cases c3
    | some o => cases o with
      | none => rw [q] at c3; cases c3
      | some u =>
        have := PySem.W.mg_of X Gx q
        rw [hm] at this
        cases this
        rfl
  obtain ⟨ds, n, kd⟩ := He.dicW_ok c1
  rw [ga] at kd
  refine ⟨ds, n, kd, fun z d hz => ?_⟩
  unfold tabV at c2
  rw [e] at c2
  dsimp only at c2
  have := List.all_eq_true.mp c2 _ (mem_lookup hz)
  rw [ga] at this
  dsimp only at this
  cases q : PySem.W.nsIn K a z with
  | none => rw [q] at this; cases this
  | some o => cases o with
    | none => rw [q] at this; cases this
    | some u =>
      rw [q] at this
      obtain ⟨v, r1, r2⟩ := repK_ok (mg := mg) (fl := fl) this
      exact ⟨u, v, rfl, r1, r2⟩
theorem tabs_none {K : PySem.W.Frag} {w : World} {mg : Str → Option Value} {fl : Str → Str} (h : mg "MEANT" = none) : Tabs K w ⟨K, mg, fl⟩ := by
  intro x es a e hm
  have hx : x = "MEANT" := by
    have := mem_lookup e
    unfold mdT at this
    rw [List.mem_singleton] at this
    exact congrArg Prod.fst this
  subst hx
  have hm : mg "MEANT" = some (.ref a) := hm
  rw [h] at hm
  cases hm
theorem tabs_meant {K : PySem.W.Frag} {w : World} {h : Heap} {mg : Str → Option Value} {fl : Str → Str} (X : K.In h) (Gx : h.Ns mainGlobals mg)
    (c1 : He.dicW K (He.ga K "MEANT") = some (He.keysIn w.params (tabKs "MEANT"))) (c2 : tabV K "MEANT" = true) (c3 : tabR K "MEANT" = true) : Tabs K w ⟨K, mg, fl⟩ := by
  intro x es a e hm
  have hx : x = "MEANT" := by
    have := mem_lookup e
    unfold mdT at this
    rw [List.mem_singleton] at this
    exact congrArg Prod.fst this
  subst hx
  exact tab_ok X Gx e hm c1 c2 c3
/-- the tables that the law's module has -/
def tabsK (ts : List Str) (K : PySem.W.Frag) : Bool := ts.all fun x => tabV K x && tabR K x
theorem fd_uniq {K : PySem.W.Frag} {x qual : Str} {params : Arguments} {body : List Stmt} {scope : Scope} {f : Addr} {fd fd2 : FuncData} (F : FunD K x qual params body scope [] [] f fd) (F2 : FunD K x qual params body scope [] [] f fd2) : fd2 = fd := by
  obtain ⟨_, _, _, _, _, _, _, _, _, _, e1, e2, _⟩ := F.ex
  obtain ⟨_, _, _, _, _, _, _, _, _, _, e3, e4, _⟩ := F2.ex
  rw [e2] at e4
  injection e4 with e4
  injection e4 with _ _ e4 _
  injection e4 with e4
  exact e4.symm
/-! ### a world told with one answer fixed: the top asks it once for each text key of a dict -/
def folW (w : World) (b : Bool) : World := { w with params := { w.params with followText := fun r => if r = "special-get-raises" then b else w.params.followText r } }
theorem folW_eq (w : World) : folW w (w.params.followText "special-get-raises") = w := by
  have e : (fun r => if r = "special-get-raises" then w.params.followText "special-get-raises" else w.params.followText r) = w.params.followText := by
    funext r
    split
    · rename_i h; rw [h]
    · rfl
  unfold folW
  rw [e]
/-! ### the head, read with one more Bool, and the keys of tables -/
abbrev AlE : Type := He.AlD × Bool × List (Option (List (Option (Str × Int))))
def obsE (n : Nat) (fa : List He.Fa) (fn : List He.DefD) (ex : PySem.W.Frag → Bool) (ts : List Str) (g : Addr → Option Obj) : AlE := (He.obsDG n fa fn g, ex (He.frG g (He.asD g n)) && tabsK ts (He.frG g (He.asD g n)), ts.map fun x => He.dicW (He.frG g (He.asD g n)) (He.ga (He.frG g (He.asD g n)) x))
structure SaysE (fa : List He.Fa) (fn : List He.DefD) (ex : PySem.W.Frag → Bool) (ts : List Str) (w : World) (K : PySem.W.Frag) : Prop where
  d : He.SaysD fa fn K
  more : ex K = true
  tb : tabsK ts K = true
  ks : (ts.map fun x => He.dicW K (He.ga K x)) = ts.map fun x => some (He.keysIn w.params (tabKs x))
def hookE (n : Nat) (fa : List He.Fa) (fn : List He.DefD) (ex : PySem.W.Frag → Bool) (ts : List Str) : PySem.W.Hook where
  α := AlE
  obs := fun s => obsE n fa fn ex ts s.heap.get?
  val := fun w => ((He.hookD n fa fn).val w, true, ts.map fun x => some (He.keysIn w.params (tabKs x)))
  says := fun w h => ∃ K : PySem.W.Frag, K.In h ∧ SaysE fa fn ex ts w K
  of := fun w s e => by
    have e1 : He.obsDG n fa fn s.heap.get? = (He.hookD n fa fn).val w := congrArg (fun z : AlE => z.1) e
    have e2 : (ex (He.frG s.heap.get? (He.asD s.heap.get? n)) && tabsK ts (He.frG s.heap.get? (He.asD s.heap.get? n))) = true := congrArg (fun z : AlE => z.2.1) e
    have e3 : (ts.map fun x => He.dicW (He.frG s.heap.get? (He.asD s.heap.get? n)) (He.ga (He.frG s.heap.get? (He.asD s.heap.get? n)) x)) = ts.map fun x => some (He.keysIn w.params (tabKs x)) := congrArg (fun z : AlE => z.2.2) e
    rw [Bool.and_eq_true] at e2
    exact ⟨He.frG s.heap.get? (He.asD s.heap.get? n), He.frG_in, ⟨e1, e2.1, e2.2, e3⟩⟩
  keeps := fun _ _ _ ⟨K, hK, c⟩ k => ⟨K, PySem.W.Frag.In.keeps hK k, c⟩
theorem obsE_eq {n : Nat} {fa : List He.Fa} {fn : List He.DefD} {ex : PySem.W.Frag → Bool} {ts : List Str} {g : Addr → Option Obj} {s : Shared} (h : ∀ a, g a = s.heap.get? a) : obsE n fa fn ex ts g = (hookE n fa fn ex ts).obs s := by
  have e : g = s.heap.get? := funext h
  rw [e]; rfl
theorem SaysE.meant {fa : List He.Fa} {fn : List He.DefD} {ex : PySem.W.Frag → Bool} {w : World} {K : PySem.W.Frag} {h : Heap} {mg : Str → Option Value} {fl : Str → Str} (c : SaysE fa fn ex ["MEANT"] w K) (X : K.In h) (Gx : h.Ns mainGlobals mg) : Tabs K w ⟨K, mg, fl⟩ := by
  have t := c.tb
  unfold tabsK at t
  rw [List.all_cons, Bool.and_eq_true, Bool.and_eq_true] at t
  have k := c.ks
  rw [List.map_cons, List.map_cons] at k
  exact tabs_meant X Gx (List.cons.inj k).1 t.1.1 t.1.2
end EK

set_option Elab.async false
set_option linter.all false
set_option maxRecDepth 100000
set_option maxHeartbeats 4000000
namespace EK
open PySem L2 PySem.Spec PyProof.Rows
/-! ### running the small language -/
section
variable {d : D} {S : Sto} {k : D → Sto → R} {kA : List D → Sto → R} {kS : D → Sto → SR} {kAS : List D → Sto → SR} {ds : List D} {Γ : Gam} {c : Str} {n0 : Nat} {fr : Bool} {kG : Gam → Sto → SR}
@[simp] theorem bind_ok : (R.ok d S).bind k = k d S := rfl
@[simp] theorem bind_ex : (R.ex c d S).bind k = .ex c d S := rfl
@[simp] theorem bindA_ok : (RA.ok ds S).bind kA = kA ds S := rfl
@[simp] theorem bindA_ex : (RA.ex c d S).bind kA = .ex c d S := rfl
@[simp] theorem go_ok : (R.ok d S).go Γ kS = kS d S := rfl
@[simp] theorem go_ex : (R.ex c d S).go Γ kS = .ex c d Γ S := rfl
@[simp] theorem goA_ok : (RA.ok ds S).go Γ kAS = kAS ds S := rfl
@[simp] theorem goA_ex : (RA.ex c d S).go Γ kAS = .ex c d Γ S := rfl
@[simp] theorem then_next : (SR.next Γ S).then kG = kG Γ S := rfl
@[simp] theorem then_ret : (SR.ret d S fr).then kG = .ret d S fr := rfl
@[simp] theorem then_ex : (SR.ex c d Γ S).then kG = .ex c d Γ S := rfl
@[simp] theorem lift_some : R.lift (some d) S = .ok d S := rfl
@[simp] theorem outR_next : outR n0 (.next Γ S) = .ok .non (S.take n0) := rfl
@[simp] theorem outR_ret : outR n0 (.ret d S fr) = .ok (outD n0 S d) (S.take n0) := rfl
@[simp] theorem outR_ex : outR n0 (.ex c d Γ S) = .ex c d (S.take n0) := rfl
@[simp] theorem outF_ret : outF n0 (.ret d S true) = .ok d (S.take n0) := rfl
@[simp] theorem outF_ex : outF n0 (.ex c d Γ S) = .ex c d (S.take n0) := rfl
end
section
variable {S : Sto} {b : Bool} {i j : Int} {s t : List Nat} {xs ys : List D} {es : List (Key × D)} {k n0 : Nat} {Γ : Gam} {f : Str} {o : O}
@[simp] theorem vw_non : vw S .non = .non := rfl
@[simp] theorem vw_bl : vw S (.bl b) = .bl b := rfl
@[simp] theorem vw_int : vw S (.int i) = .int i := rfl
@[simp] theorem vw_str : vw S (.str s) = .str s := rfl
@[simp] theorem vw_tup : vw S (.tup xs) = .tup xs := rfl
@[simp] theorem vw_lst : vw S (.lst xs) = .lst xs := rfl
@[simp] theorem vw_dic : vw S (.dic es) = .dic es := rfl
@[simp] theorem vw_fn : vw S (.fn f) = .fn f := rfl
@[simp] theorem vw_frz : vw S (.frz xs) = .frz xs := rfl
@[simp] theorem vw_last : vw (S ++ [o]) (.loc S.length) = ofO o := by
  show (match (S ++ [o])[S.length]? with | some (.lst ds) => .lst ds | some (.dic kvs) => .dic kvs | none => .loc S.length) = ofO o
  rw [List.getElem?_append_right (Nat.le_refl _), Nat.sub_self]
  cases o <;> rfl
@[simp] theorem vw_zero {o : O} : vw (o :: S) (.loc 0) = ofO o := by cases o <;> rfl
@[simp] theorem outD_non : outD n0 S .non = .non := rfl
@[simp] theorem outD_bl : outD n0 S (.bl b) = .bl b := rfl
@[simp] theorem outD_int : outD n0 S (.int i) = .int i := rfl
@[simp] theorem outD_str : outD n0 S (.str s) = .str s := rfl
@[simp] theorem outD_tup : outD n0 S (.tup xs) = .tup xs := rfl
@[simp] theorem outD_lst : outD n0 S (.lst xs) = .lst xs := rfl
@[simp] theorem outD_dic : outD n0 S (.dic es) = .dic es := rfl
@[simp] theorem noLoc_non : noLoc .non = true := rfl
@[simp] theorem noLoc_bl : noLoc (.bl b) = true := rfl
@[simp] theorem noLoc_int : noLoc (.int i) = true := rfl
@[simp] theorem noLoc_str : noLoc (.str s) = true := rfl
@[simp] theorem noLoc_tup : noLoc (.tup xs) = true := rfl
@[simp] theorem noLoc_lst : noLoc (.lst xs) = true := rfl
@[simp] theorem noLoc_dic : noLoc (.dic es) = true := rfl
@[simp] theorem ofO_lst : ofO (.lst xs) = .lst xs := rfl
@[simp] theorem ofO_dic : ofO (.dic es) = .dic es := rfl
@[simp] theorem asOwn_lst : asOwn Γ S k (.lst xs) = some (Γ.set k (some (.loc S.length)), S ++ [.lst xs]) := rfl
@[simp] theorem asOwn_dic : asOwn Γ S k (.dic es) = some (Γ.set k (some (.loc S.length)), S ++ [.dic es]) := rfl
@[simp] theorem get_last : (S ++ [o])[S.length]? = some o := by rw [List.getElem?_append_right (Nat.le_refl _), Nat.sub_self]; rfl
@[simp] theorem set_last {o' : O} : (S ++ [o]).set S.length o' = S ++ [o'] := by rw [List.set_append_right _ _ (Nat.le_refl _), Nat.sub_self]; rfl
@[simp] theorem take_last : (S ++ [o]).take S.length = S := by rw [List.take_append_of_le_length (Nat.le_refl _), List.take_length]
@[simp] theorem len_last : (S ++ [o]).length = S.length + 1 := by simp
@[simp] theorem add_int : addD (.int i) (.int j) = some (.int (i + j)) := rfl
@[simp] theorem sub_int : subD (.int i) (.int j) = some (.int (i - j)) := rfl
@[simp] theorem neg_int : negD (.int i) = some (.int (-i)) := rfl
@[simp] theorem part_non {d : D} : partI (.con .non) d = some none := rfl
theorem part_int {c : CE} (h : nonC c = false) : partI c (.int i) = some (some i) := by simp [partI, h]
@[simp] theorem part_var {m : Nat} : partI (.var m) (.int i) = some (some i) := rfl
@[simp] theorem part_conI {j : Int} : partI (.con (.int j)) (.int i) = some (some i) := rfl
@[simp] theorem part_bin {op : Operator} {a b : CE} : partI (.bin op a b) (.int i) = some (some i) := rfl
@[simp] theorem part_neg {a : CE} : partI (.neg a) (.int i) = some (some i) := rfl
@[simp] theorem nonC_int : nonC (.con (.int i)) = false := rfl
@[simp] theorem nonC_var : nonC (.var k) = false := rfl
@[simp] theorem nonC_bin {op : Operator} {a b : CE} : nonC (.bin op a b) = false := rfl
@[simp] theorem cmp_eqI : cmpD .Eq (.int i) (.int j) = some (.bl (decide (i = j))) := rfl
@[simp] theorem cmp_eqS : cmpD .Eq (.str s) (.str t) = some (.bl (decide (s = t))) := rfl
end
@[simp] theorem m_it_lst {xs : List D} : itD .seq [.lst xs] = some xs := rfl
@[simp] theorem m_it_tup {xs : List D} : itD .seq [.tup xs] = some xs := rfl
@[simp] theorem m_it_frz {xs : List D} : itD .seq [.frz xs] = some xs := rfl
@[simp] theorem m_it_str {s : List Nat} : itD .seq [.str s] = some (s.map fun c => .str [c]) := rfl
@[simp] theorem m_it_zip {xs ys : List D} : itD .zip [.lst xs, .lst ys] = some (pairs xs ys) := rfl
@[simp] theorem m_it_enm {xs : List D} : itD .enm [.lst xs] = some (enumFrom 0 xs) := rfl
theorem it_rng1 {n : Int} {m : Nat} (h : in62 n = true) (e : n.toNat = m) : itD .rng [.int n] = some (rngL 0 m) := by
  show (if in62 n = true then some (rngL 0 n.toNat) else none) = _
  rw [if_pos h, e]
theorem it_rng2 {a b : Int} {m : Nat} (h : in62 a = true) (h2 : in62 b = true) (e : (b - a).toNat = m) : itD .rng [.int a, .int b] = some (rngL a m) := by
  show (if in62 a = true ∧ in62 b = true then some (rngL a (b - a).toNat) else none) = _
  rw [if_pos ⟨h, h2⟩, e]
theorem lenS {s : List Nat} (h : s.length ≤ szL) : lenD [.str s] = some (.int s.length) := by
  show (if s.length ≤ szL then some (D.int s.length) else none) = _
  rw [if_pos h]
@[simp] theorem len_lst {xs : List D} : lenD [.lst xs] = some (.int xs.length) := rfl
@[simp] theorem len_tup {xs : List D} : lenD [.tup xs] = some (.int xs.length) := rfl
@[simp] theorem len_frz {xs : List D} : lenD [.frz xs] = some (.int xs.length) := rfl
def thaw1 (k : Nat) (d : D) : Option D → Option D := fun o => match o with
  | some (.loc j) => if j = k then some d else some (.loc j)
  | o => o
@[simp] theorem thaw_nil {k : Nat} {d : D} : thaw k d [] = [] := rfl
@[simp] theorem thaw_cons {k : Nat} {d : D} {o : Option D} {Γ : Gam} : thaw k d (o :: Γ) = thaw1 k d o :: thaw k d Γ := rfl
@[simp] theorem thaw1_none {k : Nat} {d : D} : thaw1 k d none = none := rfl
@[simp] theorem thaw1_same {k : Nat} {d : D} : thaw1 k d (some (.loc k)) = some d := by
  show (if k = k then some d else some (.loc k)) = _
  rw [if_pos rfl]
@[simp] theorem thaw1_non {k : Nat} {d : D} : thaw1 k d (some .non) = some .non := rfl
@[simp] theorem thaw1_bl {k : Nat} {d : D} {b : Bool} : thaw1 k d (some (.bl b)) = some (.bl b) := rfl
@[simp] theorem thaw1_int {k : Nat} {d : D} {b : Int} : thaw1 k d (some (.int b)) = some (.int b) := rfl
@[simp] theorem thaw1_str {k : Nat} {d : D} {b : List Nat} : thaw1 k d (some (.str b)) = some (.str b) := rfl
@[simp] theorem thaw1_lst {k : Nat} {d : D} {b : List D} : thaw1 k d (some (.lst b)) = some (.lst b) := rfl
@[simp] theorem thaw1_tup {k : Nat} {d : D} {b : List D} : thaw1 k d (some (.tup b)) = some (.tup b) := rfl
@[simp] theorem thaw1_frz {k : Nat} {d : D} {b : List D} : thaw1 k d (some (.frz b)) = some (.frz b) := rfl
@[simp] theorem thaw1_dic {k : Nat} {d : D} {b : List (Key × D)} : thaw1 k d (some (.dic b)) = some (.dic b) := rfl
@[simp] theorem recv_ix {xs : List D} : recvB .index (.lst xs) = true := rfl
@[simp] theorem recv_jo {s : List Nat} : recvB .join (.str s) = true := rfl
@[simp] theorem mf_ix {a b : D} : mfSem .index a b = indexD a b := rfl
@[simp] theorem mf_jo {a b : D} : mfSem .join a b = joinD a b := rfl
@[simp] theorem cmp_gt {i j : Int} : cmpD .Gt (.int i) (.int j) = some (.bl (decide (j < i))) := rfl
@[simp] theorem cmp_lt {i j : Int} : cmpD .Lt (.int i) (.int j) = some (.bl (decide (i < j))) := rfl
@[simp] theorem cmp_ge {i j : Int} : cmpD .GtE (.int i) (.int j) = some (.bl (!decide (i < j))) := rfl
@[simp] theorem cmp_le {i j : Int} : cmpD .LtE (.int i) (.int j) = some (.bl (!decide (j < i))) := rfl
@[simp] theorem int_int {i : Int} : intD [.int i] = some (.int i) := rfl
/-! the draws -/
def dr (cs : List Int) (l s : Int) : List (Key × D) := [(.inr "cells", .lst (cs.map .int)), (.inr "left", .int l), (.inr "spot", .int s)]
@[simp] theorem dr_cells {cs : List Int} {l s : Int} : idxD (.dic (dr cs l s)) (.str [99, 101, 108, 108, 115]) = some (.lst (cs.map .int)) := rfl
@[simp] theorem dr_left {cs : List Int} {l s : Int} : idxD (.dic (dr cs l s)) (.str [108, 101, 102, 116]) = some (.int l) := rfl
@[simp] theorem dr_spot {cs : List Int} {l s : Int} : idxD (.dic (dr cs l s)) (.str [115, 112, 111, 116]) = some (.int s) := rfl
@[simp] theorem key_str {s : List Nat} : keyD (.str s) = some (.inr ⟨s.toArray⟩) := rfl
@[simp] theorem dr_pleft {cs : List Int} {l s x : Int} : putKD (dr cs l s) (.inr ⟨#[108, 101, 102, 116]⟩) (.int x) = dr cs x s := rfl
@[simp] theorem dr_pspot {cs : List Int} {l s x : Int} : putKD (dr cs l s) (.inr ⟨#[115, 112, 111, 116]⟩) (.int x) = dr cs l x := rfl
@[simp] theorem dr_len {cs : List Int} {l s : Int} : (dr cs l s).length = 3 := rfl
theorem mod_pos {i j : Int} (h : 0 < j) : modD (.int i) (.int j) = some (.int (i % j)) := by simp [modD, h]
theorem fdiv_pos {i j : Int} (h : 0 < j) (h2 : j < 2 ^ 63) : fdivD (.int i) (.int j) = some (.int (i / j)) := by
  show (if 0 < j ∧ j.natAbs.log2 < 9000 then some (D.int (i / j)) else none) = _
  rw [if_pos]
  refine ⟨h, ?_⟩
  have : j.natAbs < 2 ^ 63 := by omega
  have := (Nat.log2_lt (by omega : j.natAbs ≠ 0)).mpr this
  omega
theorem mul_l {i j : Int} (h : smallI i = true) : mulD (.int i) (.int j) = some (.int (i * j)) := by simp [mulD, mulOkB, h]
theorem mul_r {i j : Int} (h : smallI j = true) : mulD (.int i) (.int j) = some (.int (i * j)) := by simp [mulD, mulOkB, h]
theorem small_of {i : Int} (h : 0 ≤ i) (h2 : i < 2 ^ 63) : smallI i = true := by rw [smallI_iff]; omega
theorem at_of {α : Type} {ds : List α} {i : Int} (h0 : 0 ≤ i) (h : i < ds.length) : atI ds i = some (ds[i.toNat]'(by omega)) := by
  unfold atI ixN
  rw [if_pos h0, if_pos h]
  exact List.getElem?_eq_getElem (by omega)
def bDraw : List CS := [.ite (.cmp .Gt (.idx (.var 0) (.con (.str [108, 101, 102, 116]))) (.con (.int 0))) [.set (.one 5) (.bin .Mod (.blt .int [.idx (.var 0) (.con (.str [108, 101, 102, 116]))]) (.var 1)),
  .putD 0 (.con (.str [108, 101, 102, 116])) (.bin .FloorDiv (.idx (.var 0) (.con (.str [108, 101, 102, 116]))) (.var 1)),
  .ret (.var 5)] [],
  .set (.one 2) (.bin .Add (.idx (.var 0) (.con (.str [115, 112, 111, 116]))) (.con (.int 1))),
  .putD 0 (.con (.str [115, 112, 111, 116])) (.var 2),
  .set (.one 3) (.idx (.idx (.var 0) (.con (.str [99, 101, 108, 108, 115]))) (.bin .Mod (.blt .int [.var 2]) (.blt .len [.idx (.var 0) (.con (.str [99, 101, 108, 108, 115]))]))),
  .set (.one 4) (.bin .Mult (.blt .int [.bin .Add (.bin .Add (.bin .Mod (.blt .int [.var 3]) (.con (.int 2147483629))) (.bin .Mult (.con (.int 6133)) (.var 2))) (.bin .Mult (.bin .Mult (.con (.int 23)) (.var 2)) (.var 2))]) (.con (.int 48271))),
  .set (.one 4) (.bin .Mult (.blt .int [.bin .Add (.bin .Mod (.blt .int [.var 4]) (.con (.int 2147483647))) (.bin .Mult (.con (.int 93241)) (.var 2))]) (.con (.int 69621))),
  .ret (.bin .Mod (.blt .int [.bin .FloorDiv (.bin .Mod (.blt .int [.var 4]) (.con (.int 2147483587))) (.con (.int 13))]) (.var 1))]
/-- a draw: its answer lies below the limit -/
theorem draw_ok {Φ Φf : Str → Option Fsem} {G : Str → Option D} {fuel : Nat} {cs : List Int} {l s lim : Int} (hc : cs ≠ []) (hs : 0 ≤ s) (hs2 : s < 2 ^ 60) (hl : 0 < lim) (hl2 : lim < 2 ^ 60) :
    ∃ (r l' s' : Int), fsem Φ Φf G fuel 2 6 bDraw [.loc 0, .int lim] [.dic (dr cs l s)] = .ok (.int r) [.dic (dr cs l' s')] ∧ 0 ≤ r ∧ r < lim ∧ s ≤ s' ∧ s' ≤ s + 1 := by
  by_cases h : 0 < l
  · refine ⟨l % lim, l / lim, s, ?_, Int.emod_nonneg _ (by omega), Int.emod_lt_of_pos _ hl, by omega, by omega⟩
    simp [bDraw, h, mod_pos hl, fdiv_pos hl (by omega), szL]
  · have hm : (0 : Int) < (cs.length : Int) := by
      have := List.length_pos_iff.mpr hc; omega
    have b1 := Int.emod_nonneg (s + 1) (by omega : (cs.length : Int) ≠ 0)
    have b2 := Int.emod_lt_of_pos (s + 1) hm
    have hat : idxD (.lst (cs.map .int)) (.int ((s + 1) % (cs.length : Int))) = some (.int (cs[((s + 1) % (cs.length : Int)).toNat]'(by omega))) := by
      show atI _ _ = _
      rw [at_of b1 (by simpa using b2)]
      simp
    refine ⟨(((cs[((s + 1) % (cs.length : Int)).toNat]'(by omega) % 2147483629 + 6133 * (s + 1) + 23 * (s + 1) * (s + 1)) * 48271 % 2147483647 + 93241 * (s + 1)) * 69621 % 2147483587 / 13) % lim, l, s + 1, ?_, Int.emod_nonneg _ (by omega), Int.emod_lt_of_pos _ hl, by omega, by omega⟩
    simp [bDraw, h, lenD, mod_pos hm, hat, mod_pos hl, mod_pos, fdiv_pos, mul_l (i := 6133) (by decide), mul_l (i := 23) (by decide), mul_l (i := 93241) (by decide), mul_r (j := 48271) (by decide), mul_r (j := 69621) (by decide), mul_r (j := s + 1) (small_of (by omega) (by omega)), szL]

/-- the state of the draws: at most b of them were made -/
def DS (b : Int) (S : Sto) : Prop := ∃ cs l s, S = [.dic (dr cs l s)] ∧ cs ≠ [] ∧ 0 ≤ s ∧ s ≤ b
theorem DS.mono {b c : Int} {S : Sto} (h : DS b S) (hb : b ≤ c) : DS c S := by
  obtain ⟨cs, l, s, e, h1, h2, h3⟩ := h
  exact ⟨cs, l, s, e, h1, h2, by omega⟩
def DrawOk (F : Fsem) : Prop := ∀ (b lim : Int) (S : Sto), DS b S → b < 2 ^ 50 → 0 < lim → lim < 2 ^ 60 → ∃ r S', F [.loc 0, .int lim] S = .ok (.int r) S' ∧ 0 ≤ r ∧ r < lim ∧ DS (b + 1) S'
theorem drawOk {Φ Φf : Str → Option Fsem} {G : Str → Option D} {fuel : Nat} : DrawOk (fsem Φ Φf G fuel 2 6 bDraw) := by
  intro b lim S ⟨cs, l, s, e, h1, h2, h3⟩ hb hl hl2
  subst e
  obtain ⟨r, l', s', e, q1, q2, q3, q4⟩ := draw_ok (Φ := Φ) (Φf := Φf) (G := G) (fuel := fuel) (l := l) (lim := lim) h1 h2 (by omega) hl hl2
  exact ⟨r, _, e, q1, q2, cs, l', s', rfl, h1, by omega, by omega⟩
def bOf : List CS := [.ret (.idx (.var 1) (.call "_law_draw" [.var 0, .blt .len [.var 1]]))]
def OfOk (F : Fsem) : Prop := (∀ (b : Int) (xs : List D) (S : Sto), DS b S → b < 2 ^ 50 → xs ≠ [] → xs.length < 2 ^ 60 → (∀ x ∈ xs, noLoc x = true) → ∃ x S', x ∈ xs ∧ F [.loc 0, .lst xs] S = .ok x S' ∧ DS (b + 1) S') ∧
  ∀ (b : Int) (w : List Nat) (S : Sto), DS b S → b < 2 ^ 50 → w ≠ [] → w.length ≤ szL → ∃ x S', x ∈ w ∧ F [.loc 0, .str w] S = .ok (.str [x]) S' ∧ DS (b + 1) S'
theorem take1 {b : Int} {S : Sto} (h : DS b S) : S.take 1 = S ∧ S.length = 1 := by
  obtain ⟨cs, l, s, e, _⟩ := h
  subst e
  exact ⟨rfl, rfl⟩
theorem outD_no {n0 : Nat} {S : Sto} {d : D} (h : noLoc d = true) : outD n0 S d = d := by
  cases d with
  | loc k => cases h
  | _ => rfl
theorem vw_no {S : Sto} {d : D} (h : noLoc d = true) : vw S d = d := by
  cases d with
  | loc k => cases h
  | _ => rfl
theorem ofOk {Φ Φf : Str → Option Fsem} {G : Str → Option D} {fuel : Nat} {F : Fsem} (h : Φ "_law_draw" = some F) (hF : DrawOk F) : OfOk (fsem Φ Φf G fuel 2 2 bOf) := by
  constructor
  · intro b xs S hd hb hx hl hn
    have hp := List.length_pos_iff.mpr hx
    obtain ⟨r, S', e, q1, q2, q3⟩ := hF b xs.length S hd hb (by omega) (by omega)
    have t := take1 q3
    have t0 := take1 hd
    refine ⟨xs[r.toNat]'(by omega), S', List.getElem_mem _, ?_, q3⟩
    have hat : idxD (.lst xs) (.int r) = some (xs[r.toNat]'(by omega)) := at_of q1 (by omega)
    simp [bOf, lenD, h, e, hat, t0.2, t.1]
    exact outD_no (hn _ (List.getElem_mem _))
  · intro b w S hd hb hx hl
    have hp := List.length_pos_iff.mpr hx
    have hz : w.length ≤ 16777216 := hl
    obtain ⟨r, S', e, q1, q2, q3⟩ := hF b w.length S hd hb (by omega) (by omega)
    have t := take1 q3
    have t0 := take1 hd
    refine ⟨w[r.toNat]'(by omega), S', List.getElem_mem _, ?_, q3⟩
    have hat : idxD (.str w) (.int r) = some (.str [w[r.toNat]'(by omega)]) := by
      show (if w.length ≤ szL then (atI w r).map fun c => D.str [c] else none) = _
      rw [if_pos hl, at_of q1 (by omega)]
      rfl
    simp [bOf, lenD, h, e, hat, t0.2, t.1, hl]
/-! ### comprehensions -/
theorem lc_filter {cond elt : Gam → Sto → R} {tg : Tg} {Γ : Gam} {S : Sto} {p : D → Bool} {f : D → D} : ∀ {xs acc : List D}, (∀ x ∈ xs, ∃ Γ', setTg tg x Γ = some Γ' ∧ cond Γ' S = .ok (.bl (p x)) S ∧ (p x = true → elt Γ' S = .ok (f x) S ∧ noLoc (f x) = true)) →
    lcLoop cond elt tg Γ xs acc S = .ok (.lst (acc ++ (xs.filter p).map f)) S
  | [], acc, _ => by simp [lcLoop]
  | x :: xs, acc, h => by
    obtain ⟨Γ', h1, h2, h3⟩ := h x (List.mem_cons_self ..)
    have ih := fun acc => lc_filter (xs := xs) (acc := acc) fun y hy => h y (List.mem_cons_of_mem _ hy)
    unfold lcLoop
    rw [h1]
    dsimp only
    rw [h2]
    cases hp : p x with
    | true =>
      obtain ⟨h3, h4⟩ := h3 hp
      dsimp only
      rw [h3]
      dsimp only
      rw [if_pos h4, ih, List.filter_cons_of_pos hp]
      simp
    | false =>
      dsimp only
      rw [ih, List.filter_cons_of_neg (by simp [hp])]
theorem lc_map {cond elt : Gam → Sto → R} {tg : Tg} {Γ : Gam} {S : Sto} {f : D → D} {xs acc : List D} (h : ∀ x ∈ xs, ∃ Γ', setTg tg x Γ = some Γ' ∧ cond Γ' S = .ok (.bl true) S ∧ elt Γ' S = .ok (f x) S ∧ noLoc (f x) = true) :
    lcLoop cond elt tg Γ xs acc S = .ok (.lst (acc ++ xs.map f)) S := by
  rw [lc_filter (p := fun _ => true) (f := f) fun x hx => by obtain ⟨Γ', h1, h2, h3⟩ := h x hx; exact ⟨Γ', h1, h2, fun _ => h3⟩]
  rw [List.filter_eq_self.mpr fun _ _ => rfl]
theorem lc_ind {cond elt : Gam → Sto → R} {tg : Tg} {Γ : Gam} {I : List D → Sto → Prop} : ∀ {xs acc : List D} {S : Sto}, I acc S → (∀ x ∈ xs, ∀ acc S, I acc S → ∃ Γ' d S', setTg tg x Γ = some Γ' ∧ cond Γ' S = .ok (.bl true) S ∧ elt Γ' S = .ok d S' ∧ noLoc d = true ∧ I (acc ++ [d]) S') →
    ∃ out S', lcLoop cond elt tg Γ xs acc S = .ok (.lst out) S' ∧ I out S'
  | [], acc, S, h0, _ => ⟨acc, S, by simp [lcLoop], h0⟩
  | x :: xs, acc, S, h0, h => by
    obtain ⟨Γ', d, S', h1, h2, h3, h4, h5⟩ := h x (List.mem_cons_self ..) acc S h0
    obtain ⟨out, S2, e, q⟩ := lc_ind (xs := xs) h5 fun y hy => h y (List.mem_cons_of_mem _ hy)
    refine ⟨out, S2, ?_, q⟩
    unfold lcLoop
    rw [h1]
    dsimp only
    rw [h2]
    dsimp only
    rw [h3]
    dsimp only
    rw [if_pos h4, e]
/-! ### loops -/
theorem loop_ind {body : Gam → Sto → SR} {tg : Tg} {post : SR → Prop} {I : Nat → Gam → Sto → Prop} : ∀ {items : List D} {n : Nat} {Γ : Gam} {S : Sto}, I n Γ S →
    (∀ i x Γ S, items[i]? = some x → I (n + i) Γ S → ∃ Γ', setTg tg x Γ = some Γ' ∧ ((∃ Γ2 S2, body Γ' S = .next Γ2 S2 ∧ I (n + i + 1) Γ2 S2) ∨ (∃ d S2 fr, body Γ' S = .ret d S2 fr ∧ post (.ret d S2 fr)))) →
    (∀ Γ S, I (n + items.length) Γ S → post (.next Γ S)) → post (loopN body tg items Γ S)
  | [], n, Γ, S, h0, _, hf => by unfold loopN; exact hf Γ S h0
  | x :: xs, n, Γ, S, h0, h, hf => by
    unfold loopN
    obtain ⟨Γ', e1, q⟩ := h 0 x Γ S rfl h0
    rw [e1]
    dsimp only
    rcases q with ⟨Γ2, S2, e2, q⟩ | ⟨d, S2, fr, e2, q⟩
    · rw [e2]
      refine loop_ind (n := n + 1) (I := I) q (fun i y Γ S hi hI => ?_) fun Γ S hI => hf Γ S ?_
      · have := h (i + 1) y Γ S (by simpa using hi) (by have e : n + (i + 1) = n + 1 + i := by omega
                                                        rw [e]; exact hI)
        have e : n + (i + 1) + 1 = n + 1 + i + 1 := by omega
        rw [e] at this
        exact this
      · have e : n + (x :: xs).length = n + 1 + xs.length := by rw [List.length_cons]; omega
        rw [e]; exact hI
    · rw [e2]
      exact q
theorem loop0 {body : Gam → Sto → SR} {tg : Tg} {items : List D} (I : Nat → Gam → Sto → Prop) (post : SR → Prop) {Γ : Gam} {S : Sto} (h0 : I 0 Γ S)
    (h : ∀ i x Γ S, items[i]? = some x → I i Γ S → ∃ Γ', setTg tg x Γ = some Γ' ∧ ((∃ Γ2 S2, body Γ' S = .next Γ2 S2 ∧ I (i + 1) Γ2 S2) ∨ (∃ d S2 fr, body Γ' S = .ret d S2 fr ∧ post (.ret d S2 fr))))
    (hf : ∀ Γ S, I items.length Γ S → post (.next Γ S)) : post (loopN body tg items Γ S) :=
  loop_ind (n := 0) h0 (fun i x Γ S e q => by rw [Nat.zero_add] at q ⊢; exact h i x Γ S e q) (fun Γ S q => by rw [Nat.zero_add] at q; exact hf Γ S q)
theorem lc_at {α : Type} {cond elt : Gam → Sto → R} {tg : Tg} {Γ : Gam} {S : Sto} (it f : α → D) : ∀ (ks : List α) (acc : List D), (∀ k ∈ ks, ∃ Γ', setTg tg (it k) Γ = some Γ' ∧ cond Γ' S = .ok (.bl true) S ∧ elt Γ' S = .ok (f k) S ∧ noLoc (f k) = true) →
    lcLoop cond elt tg Γ (ks.map it) acc S = .ok (.lst (acc ++ ks.map f)) S
  | [], acc, _ => by simp [lcLoop]
  | k :: ks, acc, h => by
    obtain ⟨Γ', h1, h2, h3, h4⟩ := h k (List.mem_cons_self ..)
    rw [List.map_cons]
    unfold lcLoop
    rw [h1]
    dsimp only
    rw [h2]
    dsimp only
    rw [h3]
    dsimp only
    rw [if_pos h4, lc_at it f ks _ fun y hy => h y (List.mem_cons_of_mem _ hy)]
    simp
theorem ints_map : ∀ xs : List Int, intsOf (xs.map .int) = some xs
  | [] => rfl
  | x :: xs => by
    show (intsOf (xs.map .int)).map (x :: ·) = _
    rw [ints_map xs]; rfl
theorem min_ints {xs : List Int} (h : xs ≠ []) : ∃ m, minD [.lst (xs.map .int)] = some (.int m) ∧ m ∈ xs ∧ ∀ x ∈ xs, m ≤ x := by
  cases xs with
  | nil => exact absurd rfl h
  | cons n ns =>
    obtain ⟨h1, h2, h3⟩ := foldl_min_le ns n
    refine ⟨ns.foldl min n, ?_, ?_, ?_⟩
    · show (match intsOf ((n :: ns).map .int) with | some (n :: ns) => some (D.int (ns.foldl min n)) | _ => _) = _
      rw [ints_map]
    · rcases h3 with h3 | h3
      · rw [h3]; exact List.mem_cons_self ..
      · exact List.mem_cons_of_mem _ h3
    · intro x hx
      rcases List.mem_cons.mp hx with rfl | hx
      · exact h1
      · exact h2 x hx
theorem max_ints {xs : List Int} (h : xs ≠ []) : ∃ m, maxD [.lst (xs.map .int)] = some (.int m) ∧ m ∈ xs ∧ ∀ x ∈ xs, x ≤ m := by
  cases xs with
  | nil => exact absurd rfl h
  | cons n ns =>
    obtain ⟨h1, h2, h3⟩ := foldl_max_ge ns n
    refine ⟨ns.foldl max n, ?_, ?_, ?_⟩
    · show (match intsOf ((n :: ns).map .int) with | some (n :: ns) => some (D.int (ns.foldl max n)) | _ => _) = _
      rw [ints_map]
    · rcases h3 with h3 | h3
      · rw [h3]; exact List.mem_cons_self ..
      · exact List.mem_cons_of_mem _ h3
    · intro x hx
      rcases List.mem_cons.mp hx with rfl | hx
      · exact h1
      · exact h2 x hx
theorem flat_ints (xs : List Int) : (xs.map D.int).all flatD = true := by
  rw [List.all_eq_true]
  intro d hd
  obtain ⟨x, _, rfl⟩ := List.mem_map.mp hd
  rfl
theorem index_int {xs : List Int} {m : Int} (h : m ∈ xs) : ∃ j : Nat, indexD (.lst (xs.map .int)) (.int m) = some (.int j) ∧ xs[j]? = some m := by
  have e : ((xs.map D.int).findIdx? fun x => eqFl x (.int m)) = xs.findIdx? fun x => x == m := by
    rw [List.findIdx?_map]; rfl
  cases q : xs.findIdx? fun x => x == m with
  | none =>
    rw [List.findIdx?_eq_none_iff] at q
    have := q m h
    simp at this
  | some j =>
    refine ⟨j, ?_, ?_⟩
    · show (if flatD (.int m) = true ∧ (xs.map D.int).all flatD = true then ((xs.map D.int).findIdx? fun x => eqFl x (.int m)).map fun j => D.int (j : Nat) else none) = _
      rw [if_pos ⟨rfl, flat_ints xs⟩, e, q]; rfl
    · obtain ⟨hj, h1, _⟩ := List.findIdx?_eq_some_iff_getElem.mp q
      rw [List.getElem?_eq_getElem hj]
      simpa using h1
theorem in62_of {n : Int} (h : 0 ≤ n) (h2 : n < 2 ^ 62) : in62 n = true := by
  rw [in62_iff]
  omega
theorem rng0 {n : Nat} : rngL 0 n = (List.range n).map fun i : Nat => D.int (i : Int) := by
  unfold rngL
  simp
theorem rng_len {a : Int} {n : Nat} : (rngL a n).length = n := by simp [rngL]
theorem rngAt {a : Int} {n i : Nat} {x : D} (h : (rngL a n)[i]? = some x) : i < n ∧ x = .int (a + i) := by
  have h1 := (List.getElem?_eq_some_iff.mp h).1
  rw [rng_len] at h1
  unfold rngL at h
  rw [List.getElem?_map, List.getElem?_range h1] at h
  exact ⟨h1, (Option.some.inj h).symm⟩
theorem map_ints {α : Type} (f : α → Int) (ks : List α) : (ks.map f).map D.int = ks.map fun k => D.int (f k) := by rw [List.map_map]; rfl
end EK

set_option Elab.async false
set_option linter.all false
set_option maxRecDepth 100000
set_option maxHeartbeats 4000000
namespace EK
open PySem L2 PySem.Spec PyProof.Rows
/-! ### words -/
def Wd (w : List Nat) : Prop := ∀ c ∈ w, c = 97 ∨ c = 98
def cnt (w : List Nat) (i : Nat) : Int := ((w.take i).count 98 : Nat)
def win (w : List Nat) (s p : Nat) : Int := cnt w (p + s) - cnt w p
def hL (w : List Nat) (i : Nat) : List Int := (List.range (i + 1)).map fun j => cnt w j
def Wn (w : List Nat) (s : Nat) : List Int := (List.range (w.length + 1 - s)).map fun p => win w s p
theorem cnt_zero (w : List Nat) : cnt w 0 = 0 := by simp [cnt]
theorem cnt_succ {w : List Nat} {i : Nat} {c : Nat} (h : w[i]? = some c) : cnt w (i + 1) = cnt w i + (if c = 98 then 1 else 0) := by
  unfold cnt
  rw [List.take_add_one, h]
  simp only [Option.toList_some, List.count_append, List.count_singleton]
  by_cases hc : c = 98 <;> simp [hc]
theorem hL_len (w : List Nat) (i : Nat) : (hL w i).length = i + 1 := by simp [hL]
theorem hL_succ (w : List Nat) (i : Nat) : hL w (i + 1) = hL w i ++ [cnt w (i + 1)] := by
  unfold hL
  rw [List.range_succ, List.map_append]; rfl
theorem at_neg1 {α : Type} {xs : List α} {x : α} : atI (xs ++ [x]) (-1) = some x := by
  unfold atI ixN
  rw [if_neg (by omega), if_pos (by rw [List.length_append, List.length_singleton]; omega)]
  have : ((-1 : Int) + ((xs ++ [x]).length : Nat)).toNat = xs.length := by simp; omega
  show (xs ++ [x])[((-1 : Int) + ((xs ++ [x]).length : Nat)).toNat]? = _
  rw [this]
  simp
theorem hL_last (w : List Nat) : ∀ i, ∃ xs, hL w i = xs ++ [cnt w i]
  | 0 => ⟨[], by simp [hL]⟩
  | i + 1 => ⟨hL w i, hL_succ w i⟩
theorem idx_neg1 {xs : List Int} {x : Int} : idxD (.lst ((xs ++ [x]).map .int)) (.int (-1)) = some (.int x) := by
  show atI _ _ = _
  rw [List.map_append]
  exact at_neg1
theorem idx_nat {xs : List D} {i : Int} {j : Nat} {d : D} (h : xs[j]? = some d) (hi : i = j) : idxD (.lst xs) (.int i) = some d := by
  show atI _ _ = _
  have := (List.getElem?_eq_some_iff.mp h).1
  rw [at_of (by omega) (by omega)]
  subst hi
  simp only [Int.toNat_natCast]
  rw [← h, List.getElem?_eq_getElem this]
@[simp] theorem int_bl {b : Bool} : intD [.bl b] = some (.int (if b then 1 else 0)) := rfl
def lHeights : List CS := [.app 1 (.bin .Add (.idx (.var 1) (.neg (.con (.int 1)))) (.blt .int [.cmp .Eq (.var 2) (.con (.str [98]))]))]
def bHeights : List CS := [.own 1 (.lst [.con (.int 0)]),
  .loop (.one 2) .seq [.var 0] lHeights,
  .frz 1,
  .ret (.var 1)]
def HtOk (F : Fsem) : Prop := ∀ (w : List Nat) (S : Sto), w.length < szL → F [.str w] S = .ok (.lst ((hL w w.length).map .int)) S
theorem htOk {Φ Φf : Str → Option Fsem} {G : Str → Option D} {fuel : Nat} : HtOk (fsem Φ Φf G fuel 1 3 bHeights) := by
  intro w S hw
  have hb : ∀ (i c : Nat), w[i]? = some c → exSs Φ Φf G fuel S.length lHeights [some (.str w), some (.loc S.length), some (.str [c])] (S ++ [.lst ((hL w i).map .int)]) = .next [some (.str w), some (.loc S.length), some (.str [c])] (S ++ [.lst ((hL w (i + 1)).map .int)]) := by
    intro i c e
    obtain ⟨xs, hx⟩ := hL_last w i
    have hlt := (List.getElem?_eq_some_iff.mp e).1
    have hl := hL_len w i
    rw [hx] at hl
    have hl2 : xs.length = i := by simpa using hl
    have hi1 := idx_neg1 (xs := xs) (x := cnt w i)
    rw [List.map_append] at hi1
    have hi1 : idxD (.lst (xs.map D.int ++ [.int (cnt w i)])) (.int (-1)) = some (.int (cnt w i)) := hi1
    rw [hL_succ, hx]
    have h2 : i + 1 < szL := by omega
    simp [lHeights, hi1, cnt_succ e, hl2, h2]
  have key := loop0 (body := exSs Φ Φf G fuel S.length lHeights) (tg := .one 2) (items := w.map fun c => .str [c])
    (fun i Γ S' => ∃ x, Γ = [some (.str w), some (.loc S.length), x] ∧ S' = S ++ [.lst ((hL w i).map .int)])
    (fun r => ∃ x, r = .next [some (.str w), some (.loc S.length), x] (S ++ [.lst ((hL w w.length).map .int)]))
    (Γ := [some (.str w), some (.loc S.length), none]) (S := S ++ [.lst [.int 0]])
    ⟨none, rfl, by simp [hL, cnt_zero]⟩ (fun i x Γ S' hi hI => ?_) (fun Γ S' ⟨x, e1, e2⟩ => ⟨x, by rw [e1, e2]; simp⟩)
  · obtain ⟨x, e⟩ := key
    simp [bHeights, szL, e]
  · obtain ⟨y, rfl, rfl⟩ := hI
    rw [List.getElem?_map] at hi
    cases e : w[i]? with
    | none => rw [e] at hi; cases hi
    | some c =>
      rw [e] at hi
      cases hi
      exact ⟨_, rfl, .inl ⟨_, _, hb i c e, _, rfl, rfl⟩⟩

theorem hL_get {w : List Nat} {n i : Nat} (h : i ≤ n) : ((hL w n).map D.int)[i]? = some (.int (cnt w i)) := by
  unfold hL
  rw [List.getElem?_map, List.getElem?_map, List.getElem?_range (by omega)]; rfl
def eBounds : CE := .bin .Sub (.idx (.var 0) (.bin .Add (.var 3) (.var 1))) (.idx (.var 0) (.var 3))
def bBounds : List CS := [.set (.one 2) (.lc eBounds (.one 3) .rng [.bin .Sub (.blt .len [.var 0]) (.var 1)] (.con (.bl true)) [("place", 3)]),
  .ret (.tup [.mth .index (.var 2) (.blt .min [.var 2]), .mth .index (.var 2) (.blt .max [.var 2])])]
def BdOk (F : Fsem) : Prop := ∀ (w : List Nat) (s : Nat) (S : Sto), s ≤ w.length → w.length < szL → ∃ lo hi : Nat, F [.lst ((hL w w.length).map .int), .int s] S = .ok (.tup [.int lo, .int hi]) S ∧ lo + s ≤ w.length ∧ hi + s ≤ w.length ∧
  ∀ p, p + s ≤ w.length → win w s lo ≤ win w s p ∧ win w s p ≤ win w s hi
theorem Wn_mem {w : List Nat} {s p : Nat} (h : p + s ≤ w.length) : win w s p ∈ Wn w s := List.mem_map.mpr ⟨p, List.mem_range.mpr (by omega), rfl⟩
theorem Wn_get {w : List Nat} {s j : Nat} {m : Int} (h : (Wn w s)[j]? = some m) (hs : s ≤ w.length) : j + s ≤ w.length ∧ m = win w s j := by
  unfold Wn at h
  rw [List.getElem?_map] at h
  cases e : (List.range (w.length + 1 - s))[j]? with
  | none => rw [e] at h; cases h
  | some k =>
    rw [e] at h
    have h1 := (List.getElem?_eq_some_iff.mp e)
    obtain ⟨h2, h3⟩ := h1
    rw [List.getElem_range] at h3
    subst h3
    rw [List.length_range] at h2
    exact ⟨by omega, (Option.some.inj h).symm⟩
theorem bdOk {Φ Φf : Str → Option Fsem} {G : Str → Option D} {fuel : Nat} : BdOk (fsem Φ Φf G fuel 2 4 bBounds) := by
  intro w s S hs hw
  have hz : szL = 16777216 := rfl
  have hne : Wn w s ≠ [] := by
    intro e
    have := Wn_mem (w := w) (s := s) (p := 0) (by omega)
    rw [e] at this; cases this
  obtain ⟨mn, e1, m1, m2⟩ := min_ints hne
  obtain ⟨mx, e2, m3, m4⟩ := max_ints hne
  obtain ⟨lo, e3, m5⟩ := index_int m1
  obtain ⟨hi, e4, m6⟩ := index_int m3
  obtain ⟨k1, k2⟩ := Wn_get m5 hs
  obtain ⟨k3, k4⟩ := Wn_get m6 hs
  refine ⟨lo, hi, ?_, k1, k3, fun p hp => ⟨?_, ?_⟩⟩
  · have hl := hL_len w w.length
    have e0 : lcLoop (fun _ S => .ok (.bl true) S) (ev Φ G eBounds) (.one 3) [some (.lst ((hL w w.length).map .int)), some (.int s), none, none] ((List.range (w.length + 1 - s)).map fun i : Nat => D.int (i : Int)) [] S = .ok (.lst ((Wn w s).map .int)) S := by
      rw [lc_at (fun i : Nat => D.int (i : Int)) (fun p => .int (win w s p)) _ _ fun k hk => ?_]
      · rw [List.nil_append]; unfold Wn; rw [map_ints]
      · have hk := List.mem_range.mp hk
        have i1 := idx_nat (hL_get (w := w) (n := w.length) (i := k + s) (by omega)) (i := (k : Int) + s) (by omega)
        have i2 := idx_nat (hL_get (w := w) (n := w.length) (i := k) (by omega)) (i := (k : Int)) rfl
        exact ⟨_, rfl, rfl, by simp [eBounds, i1, i2]; rfl, rfl⟩
    have hn : ((w.length : Int) + 1 - s).toNat = w.length + 1 - s := by omega
    have h62 : in62 ((w.length : Int) + 1 - s) = true := in62_of (by omega) (by omega)
    have hle : w.length + 1 ≤ 16777216 + s := by omega
    simp [bBounds, hl, it_rng1 h62 hn, rng0, szL, hle, e0, e1, e2, e3, e4]
  · rw [← k2]; exact m2 _ (Wn_mem hp)
  · rw [← k4]; exact m4 _ (Wn_mem hp)
end EK

set_option Elab.async false
set_option linter.all false
set_option maxRecDepth 100000
set_option maxHeartbeats 4000000
namespace EK
open PySem L2 PySem.Spec PyProof.Rows
def Unev (w : List Nat) (s : Nat) : Prop := ∃ p q, p + s ≤ w.length ∧ q + s ≤ w.length ∧ 1 < win w s p - win w s q
def FirstU (w : List Nat) (s : Nat) : Prop := 1 ≤ s ∧ s < w.length ∧ Unev w s ∧ ∀ t, 1 ≤ t → t < s → ¬ Unev w t
def NoU (w : List Nat) : Prop := ∀ t, 1 ≤ t → t < w.length → ¬ Unev w t
theorem FirstU.uniq {w : List Nat} {s t : Nat} (h : FirstU w s) (h' : FirstU w t) : s = t := by
  rcases Nat.lt_trichotomy s t with q | q | q
  · exact absurd h.2.2.1 (h'.2.2.2 s h.1 q)
  · exact q
  · exact absurd h'.2.2.1 (h.2.2.2 t h'.1 q)
theorem FirstU.no {w : List Nat} {s : Nat} (h : FirstU w s) (h' : NoU w) : False := h' s h.1 h.2.1 h.2.2.1
theorem win_one {w : List Nat} {p : Nat} (h : p + 1 ≤ w.length) : 0 ≤ win w 1 p ∧ win w 1 p ≤ 1 := by
  unfold win
  rw [cnt_succ (List.getElem?_eq_getElem (by omega : p < w.length))]
  split <;> omega
theorem not_one (w : List Nat) : ¬ Unev w 1 := by
  rintro ⟨p, q, h1, h2, h3⟩
  have := win_one h1
  have := win_one h2
  omega
theorem unev_of {w : List Nat} {s lo hi : Nat} (k1 : lo + s ≤ w.length) (k2 : hi + s ≤ w.length) (k : ∀ p, p + s ≤ w.length → win w s lo ≤ win w s p ∧ win w s p ≤ win w s hi) : Unev w s ↔ 1 < win w s hi - win w s lo := by
  constructor
  · rintro ⟨p, q, h1, h2, h3⟩
    have := k p h1
    have := k q h2
    omega
  · intro h
    exact ⟨hi, lo, k2, k1, h⟩
def lFirst : List CS := [.set (.many [3, 4]) (.call "bounds_at" [.var 1, .var 2]),
  .ite (.cmp .Gt (.bin .Sub (.bin .Sub (.idx (.var 1) (.bin .Add (.var 4) (.var 2))) (.idx (.var 1) (.var 4))) (.bin .Sub (.idx (.var 1) (.bin .Add (.var 3) (.var 2))) (.idx (.var 1) (.var 3)))) (.con (.int 1))) [.ret (.lst [.tup [.var 3, .var 4, .var 2]])] []]
def bFirst : List CS := [.set (.one 1) (.call "heights_of" [.var 0]),
  .loop (.one 2) .rng [.con (.int 2), .blt .len [.var 0]] lFirst,
  .ret (.lst [])]
/-- two parts that differ by two or more -/
def Wit (w : List Nat) (lo hi s : Nat) : Prop := lo + s ≤ w.length ∧ hi + s ≤ w.length ∧ 1 < win w s hi - win w s lo
def FuOk (F : Fsem) : Prop := ∀ (w : List Nat) (S : Sto), w.length < szL → (∃ lo hi s : Nat, F [.str w] S = .ok (.lst [.tup [.int lo, .int hi, .int s]]) S ∧ FirstU w s ∧ Wit w lo hi s) ∨ (F [.str w] S = .ok (.lst []) S ∧ NoU w)
theorem fuOk {Φ Φf : Str → Option Fsem} {G : Str → Option D} {fuel : Nat} {Fh Fb : Fsem} (e1 : Φ "heights_of" = some Fh) (h1 : HtOk Fh) (e2 : Φ "bounds_at" = some Fb) (h2 : BdOk Fb) : FuOk (fsem Φ Φf G fuel 1 5 bFirst) := by
  intro w S hw
  have hz : szL = 16777216 := rfl
  have hb : ∀ (s : Nat) (y z : Option D), 2 ≤ s → s < w.length → ∃ lo hi : Nat, (Unev w s ∧ exSs Φ Φf G fuel S.length lFirst [some (.str w), some (.lst ((hL w w.length).map .int)), some (.int s), y, z] S = .ret (.lst [.tup [.int lo, .int hi, .int s]]) S false ∧ Wit w lo hi s) ∨
      (¬ Unev w s ∧ exSs Φ Φf G fuel S.length lFirst [some (.str w), some (.lst ((hL w w.length).map .int)), some (.int s), y, z] S = .next [some (.str w), some (.lst ((hL w w.length).map .int)), some (.int s), some (.int lo), some (.int hi)] S) := by
    intro s y z hs1 hs2
    obtain ⟨lo, hi, e, k1, k2, k⟩ := h2 w s S (by omega) hw
    have i1 := idx_nat (hL_get (w := w) (n := w.length) (i := hi + s) (by omega)) (i := (hi : Int) + s) (by omega)
    have i2 := idx_nat (hL_get (w := w) (n := w.length) (i := hi) (by omega)) (i := (hi : Int)) rfl
    have i3 := idx_nat (hL_get (w := w) (n := w.length) (i := lo + s) (by omega)) (i := (lo : Int) + s) (by omega)
    have i4 := idx_nat (hL_get (w := w) (n := w.length) (i := lo) (by omega)) (i := (lo : Int)) rfl
    refine ⟨lo, hi, ?_⟩
    by_cases hu : Unev w s
    · left
      refine ⟨hu, ?_, k1, k2, (unev_of k1 k2 k).mp hu⟩
      rw [unev_of k1 k2 k] at hu
      unfold win at hu
      simp [lFirst, e2, e, i1, i2, i3, i4, hu, szL]
    · right
      refine ⟨hu, ?_⟩
      rw [unev_of k1 k2 k] at hu
      unfold win at hu
      simp [lFirst, e2, e, i1, i2, i3, i4, hu]
  have key := loop0 (body := exSs Φ Φf G fuel S.length lFirst) (tg := .one 2) (items := rngL 2 (w.length - 2))
    (fun i Γ S' => S' = S ∧ (∃ x y z, Γ = [some (.str w), some (.lst ((hL w w.length).map .int)), x, y, z]) ∧ ∀ t, 2 ≤ t → t < 2 + i → ¬ Unev w t)
    (fun r => (∃ lo hi s : Nat, r = .ret (.lst [.tup [.int lo, .int hi, .int s]]) S false ∧ FirstU w s ∧ Wit w lo hi s) ∨ ∃ Γ, r = .next Γ S ∧ NoU w)
    (Γ := [some (.str w), some (.lst ((hL w w.length).map .int)), none, none, none]) (S := S)
    ⟨rfl, ⟨_, _, _, rfl⟩, fun t h1 h2 => by omega⟩ (fun i x Γ S' hi hI => ?_) (fun Γ S' ⟨e1, ⟨x, y, z, e2⟩, q⟩ => .inr ⟨Γ, by rw [e1], fun t t1 t2 => ?_⟩)
  · have hnn : ((w.length : Int) - 2).toNat = w.length - 2 := by omega
    have h62 : in62 (w.length : Int) = true := in62_of (by omega) (by omega)
    have h62' : in62 2 = true := in62_of (by omega) (by omega)
    have hle : w.length ≤ szL := by omega
    rcases key with ⟨lo, hi, s, e, q⟩ | ⟨Γ, e, q⟩
    · left
      refine ⟨lo, hi, s, ?_, q⟩
      simp [bFirst, e1, h1 w S hw, lenS hle, it_rng2 h62' h62 hnn, e, szL]
    · right
      refine ⟨?_, q⟩
      simp [bFirst, e1, h1 w S hw, lenS hle, it_rng2 h62' h62 hnn, e, szL]
  · obtain ⟨rfl, ⟨a, b, c, rfl⟩, q⟩ := hI
    obtain ⟨hi1, hi2⟩ := rngAt hi
    subst hi2
    obtain ⟨lo, hi, q2⟩ := hb (2 + i) b c (by omega) (by omega)
    have e : D.int (2 + (i : Int)) = D.int ((2 + i : Nat) : Int) := by congr 1
    refine ⟨_, rfl, ?_⟩
    rw [e]
    rcases q2 with ⟨u, q2, wit⟩ | ⟨u, q2⟩
    · refine .inr ⟨_, _, _, q2, .inl ⟨lo, hi, 2 + i, rfl, ⟨by omega, by omega, u, fun t t1 t2 => ?_⟩, wit⟩⟩
      by_cases ht : t = 1
      · subst ht; exact not_one w
      · exact q t (by omega) t2
    · refine .inl ⟨_, _, q2, rfl, ⟨_, _, _, rfl⟩, fun t t1 t2 => ?_⟩
      by_cases ht : t = 2 + i
      · subst ht; exact u
      · exact q t t1 (by omega)
  · by_cases ht : t = 1
    · subst ht; exact not_one w
    · refine q t (by omega) ?_
      rw [rng_len]; omega
end EK

set_option Elab.async false
set_option linter.all false
set_option maxRecDepth 100000
set_option maxHeartbeats 4000000
namespace EK
open PySem L2 PySem.Spec PyProof.Rows
def eIsWord : CE := .cmp .In (.var 3) (.glob "LETTERS")
def bIsWord : List CS := [.ret (.and (.isi (.var 0) "str") (.and (.chain .LtE .LtE (.var 1) (.blt .len [.var 0]) (.var 2)) (.blt .all [.lc eIsWord (.one 3) .seq [.var 0] (.con (.bl true)) [("letter", 3)]])))]
def IwOk (F : Fsem) : Prop := ∀ (w : List Nat) (lo hi : Int) (S : Sto), Wd w → w.length ≤ szL → lo ≤ w.length → (w.length : Int) ≤ hi → F [.str w, .int lo, .int hi] S = .ok (.bl true) S
theorem bools_true {α : Type} : ∀ ks : List α, allD [.lst (ks.map fun _ => D.bl true)] = some (.bl true)
  | [] => rfl
  | k :: ks => by
    have := bools_true ks
    unfold allD at this ⊢
    simp only [List.map_cons] at this ⊢
    cases e : bools (ks.map fun _ => D.bl true) with
    | none => rw [e] at this; cases this
    | some bs =>
      rw [e] at this
      have e2 : bools (D.bl true :: ks.map fun _ => D.bl true) = some (true :: bs) := by
        show (bools (ks.map fun _ => D.bl true)).map (true :: ·) = _
        rw [e]; rfl
      rw [e2]
      simpa using this
theorem iwOk {Φ Φf : Str → Option Fsem} {G : Str → Option D} {fuel : Nat} (g : G "LETTERS" = some (.str [97, 98])) : IwOk (fsem Φ Φf G fuel 3 4 bIsWord) := by
  intro w lo hi S hw hl h1 h2
  have e0 : lcLoop (fun _ S => .ok (.bl true) S) (ev Φ G eIsWord) (.one 3) [some (.str w), some (.int lo), some (.int hi), none] (w.map fun c => .str [c]) [] S = .ok (.lst (w.map fun _ => .bl true)) S := by
    rw [lc_at (fun c => .str [c]) (fun _ => .bl true) _ _ fun c hc => ⟨_, rfl, rfl, ?_, rfl⟩]
    · rfl
    · have hin : cmpD .In (.str [c]) (.str [97, 98]) = some (.bl true) := by
        rcases hw c hc with rfl | rfl <;> rfl
      simp [eIsWord, g, hin]
  have hi1 : isiD "str" (.str w) = some (.bl true) := rfl
  have hb := bools_true w
  have n1 : ¬ ((w.length : Int) < lo) := by omega
  have n2 : ¬ (hi < (w.length : Int)) := by omega
  simp [bIsWord, hi1, lenS hl, e0, hl, hb, n1, n2]
def bNeedWord : List CS := [.ite (.not (.call "is_word" [.var 0, .con (.int 0), .glob "MOST_LETTERS"])) [.never] [],
  .ret (.var 0)]
def NwOk (F : Fsem) : Prop := ∀ (w : List Nat) (S : Sto), Wd w → w.length ≤ 400 → F [.str w] S = .ok (.str w) S
theorem nwOk {Φ Φf : Str → Option Fsem} {G : Str → Option D} {fuel : Nat} {F : Fsem} (g : G "MOST_LETTERS" = some (.int 400)) (e : Φ "is_word" = some F) (h : IwOk F) : NwOk (fsem Φ Φf G fuel 1 1 bNeedWord) := by
  intro w S hw hl
  have h := h w 0 400 S hw (by show w.length ≤ 16777216; omega) (by omega) (by omega)
  simp [bNeedWord, g, e, h]
def bEvenIn : List CS := [.ret (.cmp .Eq (.call "first_uneven" [.var 0]) (.lst []))]
def bEven : List CS := [.ret (.call "is_even_in" [.call "need_word" [.var 0]])]
def bUneven : List CS := [.set (.one 1) (.call "first_uneven" [.call "need_word" [.var 0]]),
  .ret (.ite (.cmp .NotEq (.var 1) (.lst [])) (.idx (.idx (.var 1) (.con (.int 0))) (.con (.int 2))) (.con .non))]
def EiOk (F : Fsem) : Prop := ∀ (w : List Nat) (S : Sto), w.length < szL → (NoU w ∧ F [.str w] S = .ok (.bl true) S) ∨ ((∃ s, FirstU w s) ∧ F [.str w] S = .ok (.bl false) S)
def EvOk (F : Fsem) : Prop := ∀ (w : List Nat) (S : Sto), Wd w → w.length ≤ 400 → (NoU w ∧ F [.str w] S = .ok (.bl true) S) ∨ ((∃ s, FirstU w s) ∧ F [.str w] S = .ok (.bl false) S)
def UsOk (F : Fsem) : Prop := ∀ (w : List Nat) (S : Sto), Wd w → w.length ≤ 400 → (NoU w ∧ F [.str w] S = .ok .non S) ∨ ∃ s : Nat, FirstU w s ∧ F [.str w] S = .ok (.int s) S
theorem eiOk {Φ Φf : Str → Option Fsem} {G : Str → Option D} {fuel : Nat} {F : Fsem} (e : Φ "first_uneven" = some F) (h : FuOk F) : EiOk (fsem Φ Φf G fuel 1 1 bEvenIn) := by
  intro w S hw
  rcases h w S hw with ⟨lo, hi, s, q1, q2, _⟩ | ⟨q1, q2⟩
  · right
    refine ⟨⟨s, q2⟩, ?_⟩
    have c : cmpD .Eq (.lst [.tup [.int lo, .int hi, .int s]]) (.lst []) = some (.bl false) := rfl
    simp [bEvenIn, e, q1, c]
  · left
    refine ⟨q2, ?_⟩
    have c : cmpD .Eq (.lst []) (.lst []) = some (.bl true) := rfl
    simp [bEvenIn, e, q1, c]
theorem lt_sz {n : Nat} (h : n ≤ 400) : n < szL := by show n < 16777216; omega
theorem evOk {Φ Φf : Str → Option Fsem} {G : Str → Option D} {fuel : Nat} {F F2 : Fsem} (e : Φ "is_even_in" = some F) (h : EiOk F) (e2 : Φ "need_word" = some F2) (h2 : NwOk F2) : EvOk (fsem Φ Φf G fuel 1 1 bEven) := by
  intro w S hw hl
  rcases h w S (lt_sz hl) with ⟨q1, q2⟩ | ⟨q1, q2⟩
  · left
    exact ⟨q1, by simp [bEven, e, e2, h2 w S hw hl, q2]⟩
  · right
    exact ⟨q1, by simp [bEven, e, e2, h2 w S hw hl, q2]⟩
theorem usOk {Φ Φf : Str → Option Fsem} {G : Str → Option D} {fuel : Nat} {F F2 : Fsem} (e : Φ "first_uneven" = some F) (h : FuOk F) (e2 : Φ "need_word" = some F2) (h2 : NwOk F2) : UsOk (fsem Φ Φf G fuel 1 2 bUneven) := by
  intro w S hw hl
  rcases h w S (lt_sz hl) with ⟨lo, hi, s, q1, q2, _⟩ | ⟨q1, q2⟩
  · right
    refine ⟨s, q2, ?_⟩
    have c : cmpD .NotEq (.lst [.tup [.int lo, .int hi, .int s]]) (.lst []) = some (.bl true) := rfl
    have i1 : idxD (.lst [.tup [.int lo, .int hi, .int s]]) (.int 0) = some (.tup [.int lo, .int hi, .int s]) := rfl
    have i2 : idxD (.tup [.int lo, .int hi, .int s]) (.int 2) = some (.int s) := rfl
    simp [bUneven, e, e2, h2 w S hw hl, q1, c, i1, i2]
  · left
    refine ⟨q2, ?_⟩
    have c : cmpD .NotEq (.lst []) (.lst []) = some (.bl false) := rfl
    simp [bUneven, e, e2, h2 w S hw hl, q1, c]
end EK

set_option Elab.async false
set_option linter.all false
set_option maxRecDepth 100000
set_option maxHeartbeats 4000000
namespace EK
open PySem L2 PySem.Spec PyProof.Rows
section
variable {Φ Φf : Str → Option Fsem} {G : Str → Option D} {fuel : Nat}
theorem pairs_zip : ∀ (xs ys : List D), pairs xs ys = List.zipWith (fun x y => D.tup [x, y]) xs ys
  | [], _ => by cases ‹List D› <;> rfl
  | _ :: _, [] => rfl
  | x :: xs, y :: ys => by
    show D.tup [x, y] :: pairs xs ys = D.tup [x, y] :: List.zipWith _ xs ys
    rw [pairs_zip xs ys]
theorem pairs_range (f g : Nat → D) (n m : Nat) (h : m ≤ n) : pairs ((List.range n).map f) ((List.range m).map g) = (List.range m).map fun i => D.tup [f i, g i] := by
  rw [pairs_zip]
  apply List.ext_getElem?
  intro i
  rw [List.getElem?_zipWith]
  simp only [List.getElem?_map]
  by_cases hi : i < m
  · rw [List.getElem?_range hi, List.getElem?_range (by omega)]; rfl
  · rw [List.getElem?_eq_none (l := List.range m) (by simpa using hi)]
    cases (List.range n)[i]? <;> rfl
theorem drop_range {α : Type} (f : Nat → α) (n s : Nat) : ((List.range n).map f).drop s = (List.range (n - s)).map fun i => f (i + s) := by
  apply List.ext_getElem?
  intro i
  rw [List.getElem?_drop, List.getElem?_map, List.getElem?_map]
  by_cases hi : i < n - s
  · rw [List.getElem?_range hi, List.getElem?_range (by omega)]
    simp [Nat.add_comm]
  · rw [List.getElem?_eq_none (l := List.range (n - s)) (by simpa using hi), List.getElem?_eq_none (l := List.range n) (by simp; omega)]
    rfl
theorem cut_from {α : Type} {xs : List α} {s : Nat} (h : s ≤ xs.length) : cutL xs (some (s : Int)) none = xs.drop s := by
  unfold cutL
  rw [HT.sIx_nat, HT.sIx_none, Nat.min_eq_left h, List.take_of_length_le (by simp)]
theorem cut_to {α : Type} {xs : List α} {e : Nat} : cutL xs none (some (e : Int)) = xs.take e := by
  unfold cutL
  rw [HT.sIx_nat, HT.sIx_none, List.drop_zero, Nat.sub_zero]
  by_cases h : e ≤ xs.length
  · rw [Nat.min_eq_left h]
  · rw [Nat.min_eq_right (by omega), List.take_of_length_le (Nat.le_refl _), List.take_of_length_le (by omega)]
theorem cut_both {α : Type} {xs : List α} {s e : Nat} (h : s ≤ e) (h2 : e ≤ xs.length) : cutL xs (some (s : Int)) (some (e : Int)) = (xs.drop s).take (e - s) := by
  unfold cutL
  rw [HT.sIx_nat, HT.sIx_nat, Nat.min_eq_left h2, Nat.min_eq_left (by omega)]
theorem ht_body {w : List Nat} {S : Sto} (hw : w.length < szL) (T : Gam) (i c : Nat) (e : w[i]? = some c) : exSs Φ Φf G fuel S.length lHeights (some (.str w) :: some (.loc S.length) :: some (.str [c]) :: T) (S ++ [.lst ((hL w i).map .int)]) = .next (some (.str w) :: some (.loc S.length) :: some (.str [c]) :: T) (S ++ [.lst ((hL w (i + 1)).map .int)]) := by
  obtain ⟨xs, hx⟩ := hL_last w i
  have hlt := (List.getElem?_eq_some_iff.mp e).1
  have hl := hL_len w i
  rw [hx] at hl
  have hl2 : xs.length = i := by simpa using hl
  have hi1 := idx_neg1 (xs := xs) (x := cnt w i)
  rw [List.map_append] at hi1
  have hi1 : idxD (.lst (xs.map D.int ++ [.int (cnt w i)])) (.int (-1)) = some (.int (cnt w i)) := hi1
  rw [hL_succ, hx]
  have h2 : i + 1 < szL := by omega
  simp [lHeights, hi1, cnt_succ e, hl2, h2]
theorem ht_loop {w : List Nat} {S : Sto} (hw : w.length < szL) (T : Gam) : ∃ x, loopN (exSs Φ Φf G fuel S.length lHeights) (.one 2) (w.map fun c => .str [c]) (some (.str w) :: some (.loc S.length) :: none :: T) (S ++ [.lst [.int 0]]) = .next (some (.str w) :: some (.loc S.length) :: x :: T) (S ++ [.lst ((hL w w.length).map .int)]) := by
  refine loop0 (items := w.map fun c => .str [c])
    (fun i Γ S' => ∃ x, Γ = some (.str w) :: some (.loc S.length) :: x :: T ∧ S' = S ++ [.lst ((hL w i).map .int)])
    (fun r => ∃ x, r = .next (some (.str w) :: some (.loc S.length) :: x :: T) (S ++ [.lst ((hL w w.length).map .int)]))
    ⟨none, rfl, by simp [hL, cnt_zero]⟩ (fun i x Γ S' hi hI => ?_) (fun Γ S' ⟨x, e1, e2⟩ => ⟨x, by rw [e1, e2]; simp⟩)
  obtain ⟨y, rfl, rfl⟩ := hI
  rw [List.getElem?_map] at hi
  cases e : w[i]? with
  | none => rw [e] at hi; cases hi
  | some c =>
    rw [e] at hi
    cases hi
    exact ⟨_, rfl, .inl ⟨_, _, ht_body hw T i c e, _, rfl, rfl⟩⟩
def eSpread : CE := .bin .Sub (.var 6) (.var 5)
def lSpread : List CS := [.set (.one 4) (.lc eSpread (.many [5, 6]) .zip [.var 1, .sl (.var 1) (.var 3) (.con .non)] (.con (.bl true)) [("_law_near", 5), ("_law_far", 6)]),
  .ite (.cmp .Gt (.bin .Sub (.blt .max [.var 4]) (.blt .min [.var 4])) (.con (.int 1))) [.ret (.var 3)] []]
def bSpread : List CS := [.own 1 (.lst [.con (.int 0)]),
  .loop (.one 2) .seq [.var 0] lHeights,
  .frz 1,
  .loop (.one 3) .rng [.con (.int 1), .blt .len [.var 0]] lSpread,
  .ret (.con .non)]
def SpOk (F : Fsem) : Prop := ∀ (w : List Nat) (S : Sto), w.length < szL → (NoU w ∧ F [.str w] S = .ok .non S) ∨ ∃ s : Nat, FirstU w s ∧ F [.str w] S = .ok (.int s) S
theorem sp_body {w : List Nat} {S : Sto} (hw : w.length < szL) {n0 : Nat} (s : Nat) (l a : Option D) (h1 : 1 ≤ s) (h2 : s < w.length) :
    (Unev w s ∧ exSs Φ Φf G fuel n0 lSpread [some (.str w), some (.lst ((hL w w.length).map .int)), l, some (.int s), a, none, none] S = .ret (.int s) S false) ∨
    (¬ Unev w s ∧ exSs Φ Φf G fuel n0 lSpread [some (.str w), some (.lst ((hL w w.length).map .int)), l, some (.int s), a, none, none] S = .next [some (.str w), some (.lst ((hL w w.length).map .int)), l, some (.int s), some (.lst ((Wn w s).map .int)), none, none] S) := by
  have hz : szL = 16777216 := rfl
  have hne : Wn w s ≠ [] := by
    intro e
    have := Wn_mem (w := w) (s := s) (p := 0) (by omega)
    rw [e] at this; cases this
  obtain ⟨mn, e1, m1, m2⟩ := min_ints hne
  obtain ⟨mx, e2, m3, m4⟩ := max_ints hne
  obtain ⟨lo, e3, m5⟩ := index_int m1
  obtain ⟨hi, e4, m6⟩ := index_int m3
  obtain ⟨k1, k2⟩ := Wn_get m5 (by omega)
  obtain ⟨k3, k4⟩ := Wn_get m6 (by omega)
  have hu : Unev w s ↔ 1 < mx - mn := by
    rw [unev_of k1 k3 fun p hp => ⟨by rw [← k2]; exact m2 _ (Wn_mem hp), by rw [← k4]; exact m4 _ (Wn_mem hp)⟩, k2, k4]
  have ecut : slD (.lst ((hL w w.length).map .int)) (some (s : Int)) none = some (.lst ((List.range (w.length + 1 - s)).map fun p => D.int (cnt w (p + s)))) := by
    show some (D.lst (cutL _ _ _)) = _
    rw [cut_from (by rw [List.length_map, hL_len]; omega)]
    unfold hL
    rw [map_ints, drop_range]
  have epair : pairs ((hL w w.length).map .int) ((List.range (w.length + 1 - s)).map fun p => D.int (cnt w (p + s))) = (List.range (w.length + 1 - s)).map fun p => D.tup [.int (cnt w p), .int (cnt w (p + s))] := by
    unfold hL
    rw [map_ints, pairs_range _ _ _ _ (by omega)]
  have e0 : lcLoop (fun _ S => .ok (.bl true) S) (ev Φ G eSpread) (.many [5, 6]) [some (.str w), some (.lst ((hL w w.length).map .int)), l, some (.int s), a, none, none] ((List.range (w.length + 1 - s)).map fun p => D.tup [.int (cnt w p), .int (cnt w (p + s))]) [] S = .ok (.lst ((Wn w s).map .int)) S := by
    rw [lc_at (fun p => D.tup [.int (cnt w p), .int (cnt w (p + s))]) (fun p => .int (win w s p)) _ _ fun k hk => ⟨_, rfl, rfl, by simp [eSpread]; rfl, rfl⟩]
    rw [List.nil_append]; unfold Wn; rw [map_ints]
  have hle : w.length + 1 ≤ 16777216 + s := by omega
  by_cases h : Unev w s
  · left
    refine ⟨h, ?_⟩
    have h := hu.mp h
    simp [lSpread, part_int, ecut, epair, e0, szL, hle, e1, e2, h]
  · right
    refine ⟨h, ?_⟩
    have h : ¬ 1 < mx - mn := fun z => h (hu.mpr z)
    simp [lSpread, part_int, ecut, epair, e0, szL, hle, e1, e2, h]
theorem spOk : SpOk (fsem Φ Φf G fuel 1 7 bSpread) := by
  intro w S hw
  have hz : szL = 16777216 := rfl
  obtain ⟨x, eh⟩ := ht_loop (Φ := Φ) (Φf := Φf) (G := G) (fuel := fuel) (w := w) (S := S) hw [none, none, none, none]
  generalize ex2 : thaw1 S.length (.lst ((hL w w.length).map .int)) x = x2
  have key := loop0 (body := exSs Φ Φf G fuel S.length lSpread) (tg := .one 3) (items := rngL 1 (w.length - 1))
    (fun i Γ S' => S' = S ∧ (∃ y z, Γ = [some (.str w), some (.lst ((hL w w.length).map .int)), x2, y, z, none, none]) ∧ ∀ t, 1 ≤ t → t < 1 + i → ¬ Unev w t)
    (fun r => (∃ s : Nat, r = .ret (.int s) S false ∧ FirstU w s) ∨ ∃ Γ, r = .next Γ S ∧ NoU w)
    (Γ := [some (.str w), some (.lst ((hL w w.length).map .int)), x2, none, none, none, none]) (S := S)
    ⟨rfl, ⟨_, _, rfl⟩, fun t h1 h2 => by omega⟩ (fun i x Γ S' hi hI => ?_) (fun Γ S' ⟨e1, _, q⟩ => .inr ⟨Γ, by rw [e1], fun t t1 t2 => q t t1 (by rw [rng_len]; omega)⟩)
  · have hnn : ((w.length : Int) - 1).toNat = w.length - 1 := by omega
    have h62 : in62 (w.length : Int) = true := in62_of (by omega) (by omega)
    have h62' : in62 1 = true := rfl
    have hle : w.length ≤ szL := by omega
    rcases key with ⟨s, e, q⟩ | ⟨Γ, e, q⟩
    · right
      refine ⟨s, q, ?_⟩
      simp [bSpread, szL, eh, ex2, lenS hle, it_rng2 h62' h62 hnn, e]
    · left
      refine ⟨q, ?_⟩
      simp [bSpread, szL, eh, ex2, lenS hle, it_rng2 h62' h62 hnn, e]
  · obtain ⟨rfl, ⟨b, c, rfl⟩, q⟩ := hI
    obtain ⟨hi1, hi2⟩ := rngAt hi
    subst hi2
    have e : D.int (1 + (i : Int)) = D.int ((1 + i : Nat) : Int) := by congr 1
    rw [e]
    refine ⟨_, rfl, ?_⟩
    rcases sp_body (Φ := Φ) (Φf := Φf) (G := G) (fuel := fuel) (S := S') (n0 := S'.length) hw (1 + i) x2 c (by omega) (by omega) with ⟨u, q2⟩ | ⟨u, q2⟩
    · exact .inr ⟨_, _, _, q2, .inl ⟨1 + i, rfl, by omega, by omega, u, fun t t1 t2 => q t t1 t2⟩⟩
    · refine .inl ⟨_, _, q2, rfl, ⟨_, _, rfl⟩, fun t t1 t2 => ?_⟩
      by_cases ht : t = 1 + i
      · subst ht; exact u
      · exact q t t1 (by omega)
end
end EK

set_option Elab.async false
set_option linter.all false
set_option maxRecDepth 100000
set_option maxHeartbeats 4000000
namespace EK
open PySem L2 PySem.Spec PyProof.Rows
/-! ### the other letters, the word backwards -/
def flip (c : Nat) : Nat := if c = 97 then 98 else 97
theorem wd_flip (w : List Nat) : Wd (w.map flip) := by
  intro c hc
  obtain ⟨d, _, rfl⟩ := List.mem_map.mp hc
  unfold flip
  split
  · exact .inr rfl
  · exact .inl rfl
theorem wd_rev {w : List Nat} (h : Wd w) : Wd w.reverse := fun c hc => h c (List.mem_reverse.mp hc)
theorem count_flip : ∀ {w : List Nat}, Wd w → (w.map flip).count 98 + w.count 98 = w.length
  | [], _ => rfl
  | c :: w, h => by
    have ih := count_flip (w := w) fun d hd => h d (List.mem_cons_of_mem _ hd)
    rw [List.map_cons, List.count_cons, List.count_cons, List.length_cons]
    rcases h c (List.mem_cons_self ..) with rfl | rfl
    · simp [flip]; omega
    · simp [flip]; omega
theorem cnt_flip {w : List Nat} (h : Wd w) {i : Nat} (hi : i ≤ w.length) : cnt (w.map flip) i = i - cnt w i := by
  unfold cnt
  rw [← List.map_take]
  have := count_flip (w := w.take i) fun c hc => h c (List.mem_of_mem_take hc)
  rw [List.length_take, Nat.min_eq_left hi] at this
  omega
theorem win_flip {w : List Nat} (h : Wd w) {s p : Nat} (hp : p + s ≤ w.length) : win (w.map flip) s p = s - win w s p := by
  unfold win
  rw [cnt_flip h hp, cnt_flip h (by omega)]
  omega
theorem unev_flip {w : List Nat} (h : Wd w) (s : Nat) : Unev (w.map flip) s ↔ Unev w s := by
  constructor
  · rintro ⟨p, q, h1, h2, h3⟩
    rw [List.length_map] at h1 h2
    rw [win_flip h h1, win_flip h h2] at h3
    exact ⟨q, p, h2, h1, by omega⟩
  · rintro ⟨p, q, h1, h2, h3⟩
    refine ⟨q, p, by rw [List.length_map]; exact h2, by rw [List.length_map]; exact h1, ?_⟩
    rw [win_flip h h1, win_flip h h2]; omega
theorem cnt_rev {w : List Nat} {i : Nat} (hi : i ≤ w.length) : cnt w.reverse i = cnt w w.length - cnt w (w.length - i) := by
  unfold cnt
  rw [List.take_reverse, List.count_reverse, List.take_length]
  have := congrArg (List.count 98) (List.take_append_drop (w.length - i) w)
  rw [List.count_append] at this
  omega
theorem win_rev {w : List Nat} {s p : Nat} (hp : p + s ≤ w.length) : win w.reverse s p = win w s (w.length - (p + s)) := by
  unfold win
  rw [cnt_rev hp, cnt_rev (by omega), show w.length - (p + s) + s = w.length - p by omega]
  omega
theorem unev_rev (w : List Nat) (s : Nat) : Unev w.reverse s ↔ Unev w s := by
  constructor
  · rintro ⟨p, q, h1, h2, h3⟩
    rw [List.length_reverse] at h1 h2
    rw [win_rev h1, win_rev h2] at h3
    exact ⟨_, _, by omega, by omega, h3⟩
  · rintro ⟨p, q, h1, h2, h3⟩
    refine ⟨w.length - (p + s), w.length - (q + s), by rw [List.length_reverse]; omega, by rw [List.length_reverse]; omega, ?_⟩
    rw [win_rev (by omega), win_rev (by omega)]
    rw [show w.length - (w.length - (p + s) + s) = p by omega, show w.length - (w.length - (q + s) + s) = q by omega]
    exact h3
theorem noU_iff {v w : List Nat} (h : ∀ s, Unev v s ↔ Unev w s) (hl : v.length = w.length) : NoU v ↔ NoU w := by
  unfold NoU
  rw [hl]
  exact ⟨fun q t h1 h2 u => q t h1 h2 ((h t).mpr u), fun q t h1 h2 u => q t h1 h2 ((h t).mp u)⟩
theorem firstU_iff {v w : List Nat} (h : ∀ s, Unev v s ↔ Unev w s) (hl : v.length = w.length) (s : Nat) : FirstU v s ↔ FirstU w s := by
  unfold FirstU
  rw [hl, h s]
  constructor
  · rintro ⟨a, b, c, d⟩; exact ⟨a, b, c, fun t h1 h2 u => d t h1 h2 ((h t).mpr u)⟩
  · rintro ⟨a, b, c, d⟩; exact ⟨a, b, c, fun t h1 h2 u => d t h1 h2 ((h t).mp u)⟩
/-! ### joined letters -/
theorem join_nil : ∀ ys : List (List Nat), TL.joinL [] ys = ys.flatten
  | [] => rfl
  | [y] => by simp [TL.joinL]
  | y :: z :: r => by
    have := join_nil (z :: r)
    simp only [TL.joinL] at this ⊢
    simp [this]
theorem join_strs {ys : List (List Nat)} (h : (ys.map (·.length)).sum ≤ szL) : joinD (.str []) (.lst (ys.map .str)) = some (.str ys.flatten) := by
  show (match strsOf (ys.map .str) with | some ys => if (ys.map fun y : List Nat => y.length).sum + ys.length * ([] : List Nat).length ≤ szL then some (D.str (TL.joinL [] ys)) else none | none => none) = _
  rw [strsOf_map]
  dsimp only
  rw [if_pos (by simpa using h), join_nil]
theorem join_letters {α : Type} {f : α → Nat} {ks : List α} (h : ks.length ≤ szL) : joinD (.str []) (.lst (ks.map fun k => .str [f k])) = some (.str (ks.map f)) := by
  have e : (ks.map fun k => D.str [f k]) = (ks.map fun k => [f k]).map .str := by rw [List.map_map]; rfl
  have e2 : (ks.map fun k => [f k]).flatten = ks.map f := by
    induction ks with
    | nil => rfl
    | cons k ks ih => rw [List.map_cons, List.flatten_cons, ih (by rw [List.length_cons] at h; omega) (by rw [List.map_map]; rfl)]; rfl
  rw [e, join_strs, e2]
  have : ((ks.map fun k => [f k]).map (·.length)).sum = ks.length := by
    rw [List.map_map]
    clear e e2 h
    induction ks with
    | nil => rfl
    | cons k ks ih =>
      rw [List.map_cons, List.sum_cons, ih, List.length_cons]
      show 1 + _ = _
      omega
  rw [this]; exact h
/-! ### the law's own look at a word -/
/-- the longest even part, the first of these -/
def Part (w : List Nat) (b L : Nat) : List Nat := (w.drop b).take L
def Lgst (w v : List Nat) : Prop := ∃ b L, b + L ≤ w.length ∧ v = Part w b L ∧ NoU v ∧ ∀ b' L', b' + L' ≤ w.length → NoU (Part w b' L') → L' < L ∨ (L' = L ∧ b ≤ b')
theorem Lgst.uniq {w v v' : List Nat} (h : Lgst w v) (h' : Lgst w v') : v = v' := by
  obtain ⟨b, L, h1, h2, h3, h4⟩ := h
  obtain ⟨b', L', h1', h2', h3', h4'⟩ := h'
  subst h2 h2'
  have q := h4 b' L' h1' h3'
  have q' := h4' b L h1 h3
  have e1 : L = L' := by omega
  have e2 : b = b' := by omega
  rw [e1, e2]
def LgOk (F : Fsem) : Prop := ∀ (w : List Nat) (S : Sto), Wd w → w.length ≤ 400 → ∃ v, Lgst w v ∧ F [.str w] S = .ok (.str v) S
def eRight : CE := .idx (.dic [.inr "a", .inr "b"] [.con (.str [98]), .con (.str [97])]) (.var 5)
def lRight : List CS := [.ite (.cmp .NotEq (.lst [.call "is_even" [.var 0], .call "uneven_size" [.var 0], .call "is_even" [.rev (.var 3)], .call "uneven_size" [.var 3]]) (.var 2)) [.ret (.con (.bl false))] []]
def bRight : List CS := [.set (.one 1) (.call "_law_spread" [.var 0]),
  .set (.one 2) (.lst [.cmp .Is (.var 1) (.con .non), .var 1, .cmp .Is (.var 1) (.con .non), .var 1]),
  .set (.one 3) (.mth .join (.con (.str [])) (.lc eRight (.one 5) .seq [.var 0] (.con (.bl true)) [("_law_letter", 5)])),
  .loop (.one 4) .rng [.con (.int 2)] lRight,
  .ret (.or (.cmp .Gt (.blt .len [.var 0]) (.con (.int 24))) (.cmp .Eq (.call "longest_even" [.var 0]) (.call "_law_longest" [.var 0])))]
def RtOk (F : Fsem) : Prop := ∀ (w : List Nat) (S : Sto), Wd w → w.length ≤ 400 → F [.str w] S = .ok (.bl true) S
section
variable {Φ Φf : Str → Option Fsem} {G : Str → Option D} {fuel : Nat} {Fs Fe Fu Fl Fg : Fsem}
theorem rt_lc {w : List Nat} {S : Sto} (hw : Wd w) {a b : D} : lcLoop (fun _ S => .ok (.bl true) S) (ev Φ G eRight) (.one 5) [some (.str w), some a, some b, none, none, none] (w.map fun c => .str [c]) [] S = .ok (.lst (w.map fun c => .str [flip c])) S := by
  rw [lc_at (fun c => .str [c]) (fun c => .str [flip c]) _ _ fun c hc => ⟨_, rfl, rfl, ?_, rfl⟩]
  · rfl
  · have nab : ¬ (Str.ofString "a" = Str.ofString "b") := by decide
    have i1 : idxD (.dic [(.inr "a", .str [98]), (.inr "b", .str [97])]) (.str [97]) = some (.str [98]) := rfl
    have i2 : idxD (.dic [(.inr "a", .str [98]), (.inr "b", .str [97])]) (.str [98]) = some (.str [97]) := rfl
    rcases hw c hc with rfl | rfl
    · simp [eRight, i1, flip, nab]
    · simp [eRight, i2, flip, nab]
theorem eq4 : cmpD .NotEq (.lst [.bl true, .non, .bl true, .non]) (.lst [.bl true, .non, .bl true, .non]) = some (.bl false) := rfl
theorem eq4' {s : Int} : cmpD .NotEq (.lst [.bl false, .int s, .bl false, .int s]) (.lst [.bl false, .int s, .bl false, .int s]) = some (.bl false) := by
  have e : cmpD .NotEq (.lst [.bl false, .int s, .bl false, .int s]) (.lst [.bl false, .int s, .bl false, .int s]) = some (.bl (!(PyData.eqv (.list [.bool false, .int s, .bool false, .int s]) (.list [.bool false, .int s, .bool false, .int s])))) := rfl
  rw [e]
  simp [PyData.eqv, PyData.eqvAll]
theorem rtOk (es : Φ "_law_spread" = some Fs) (hs : SpOk Fs) (ee : Φ "is_even" = some Fe) (he : EvOk Fe) (eu : Φ "uneven_size" = some Fu) (hu : UsOk Fu) (el : Φ "longest_even" = some Fl) (hl : LgOk Fl) (eg : Φ "_law_longest" = some Fg) (hg : LgOk Fg) : RtOk (fsem Φ Φf G fuel 1 6 bRight) := by
  intro w S hw h4
  have hsz := lt_sz h4
  have i1 := fun s => unev_flip hw s
  have i2 := fun s => (unev_rev (w.map flip) s).trans (unev_flip hw s)
  have l1 : (w.map flip).length = w.length := List.length_map ..
  have l2 : (w.map flip).reverse.length = w.length := by rw [List.length_reverse, l1]
  have hj := join_letters (f := flip) (ks := w) (Nat.le_of_lt hsz)
  have hr : revD (.str (w.map flip)) = some (.str (w.map flip).reverse) := by
    show (if (w.map flip).length ≤ szL then some (D.str (w.map flip).reverse) else none) = _
    rw [if_pos (by rw [l1]; omega)]
  obtain ⟨v, v1, v2⟩ := hl w S hw h4
  obtain ⟨v', v3, v4⟩ := hg w S hw h4
  obtain rfl := v1.uniq v3
  have ec : cmpD .Eq (.str v) (.str v) = some (.bl true) := by simp
  have h62 : in62 2 = true := rfl
  have fin : ∀ d : D, (hs' : Fs [.str w] S = .ok d S) → (b : Bool) → cmpD .Is d .non = some (.bl b) → Fe [.str w] S = .ok (.bl b) S → Fu [.str w] S = .ok d S → Fe [.str (w.map flip).reverse] S = .ok (.bl b) S → Fu [.str (w.map flip)] S = .ok d S → noLoc d = true → cmpD .NotEq (.lst [.bl b, d, .bl b, d]) (.lst [.bl b, d, .bl b, d]) = some (.bl false) → fsem Φ Φf G fuel 1 6 bRight [.str w] S = .ok (.bl true) S := by
    intro d q1 b q2 q3 q4 q5 q6 q7 q8
    have hb : ∀ x, exSs Φ Φf G fuel S.length lRight [some (.str w), some d, some (.lst [.bl b, d, .bl b, d]), some (.str (w.map flip)), x, none] S = .next [some (.str w), some d, some (.lst [.bl b, d, .bl b, d]), some (.str (w.map flip)), x, none] S := by
      intro x
      simp [lRight, ee, eu, q3, q4, hr, q5, q6, q7, q8, szL]
    have key := loop0 (body := exSs Φ Φf G fuel S.length lRight) (tg := .one 4) (items := rngL 0 2)
      (fun i Γ S' => S' = S ∧ ∃ x, Γ = [some (.str w), some d, some (.lst [.bl b, d, .bl b, d]), some (.str (w.map flip)), x, none])
      (fun r => ∃ x, r = .next [some (.str w), some d, some (.lst [.bl b, d, .bl b, d]), some (.str (w.map flip)), x, none] S)
      (Γ := [some (.str w), some d, some (.lst [.bl b, d, .bl b, d]), some (.str (w.map flip)), none, none]) (S := S)
      ⟨rfl, _, rfl⟩ (fun i y Γ S' hi hI => by obtain ⟨rfl, x, rfl⟩ := hI; exact ⟨_, rfl, .inl ⟨_, _, hb _, rfl, _, rfl⟩⟩) (fun Γ S' ⟨e1, x, e2⟩ => ⟨x, by rw [e1, e2]⟩)
    obtain ⟨x, key⟩ := key
    have hlc := rt_lc (Φ := Φ) (G := G) (S := S) hw (a := d) (b := .lst [.bl b, d, .bl b, d])
    have hle : w.length ≤ szL := by omega
    have hle2 : w.length ≤ 16777216 := hle
    simp [bRight, es, q1, q2, q7, vw_no q7, szL, hlc, hle2, hj, it_rng1 h62 (rfl : (2 : Int).toNat = 2), lenS hle, key, el, eg, v2, v4]
    cases decide (24 < (w.length : Int)) <;> simp
  rcases hs w S hsz with ⟨n1, n2⟩ | ⟨s, n1, n2⟩
  · have a1 := (he w S hw h4).resolve_right fun ⟨⟨s, z⟩, _⟩ => z.no n1
    have a2 := (hu w S hw h4).resolve_right fun ⟨s, z, _⟩ => z.no n1
    have a3 := (he _ S (wd_rev (wd_flip w)) (by rw [l2]; exact h4)).resolve_right fun ⟨⟨s, z⟩, _⟩ => z.no ((noU_iff i2 l2).mpr n1)
    have a4 := (hu _ S (wd_flip w) (by rw [l1]; exact h4)).resolve_right fun ⟨s, z, _⟩ => z.no ((noU_iff i1 l1).mpr n1)
    exact fin .non n2 true rfl a1.2 a2.2 a3.2 a4.2 rfl eq4
  · have a1 := (he w S hw h4).resolve_left fun ⟨z, _⟩ => n1.no z
    have a3 := (he _ S (wd_rev (wd_flip w)) (by rw [l2]; exact h4)).resolve_left fun ⟨z, _⟩ => n1.no ((noU_iff i2 l2).mp z)
    obtain ⟨s2, b1, b2⟩ := (hu w S hw h4).resolve_left fun ⟨z, _⟩ => n1.no z
    obtain ⟨s3, b3, b4⟩ := (hu _ S (wd_flip w) (by rw [l1]; exact h4)).resolve_left fun ⟨z, _⟩ => n1.no ((noU_iff i1 l1).mp z)
    obtain rfl := n1.uniq b1
    obtain rfl := n1.uniq ((firstU_iff i1 l1 s3).mp b3)
    exact fin (.int s) n2 false rfl a1.2 b2 a3.2 b4 rfl eq4'
end
end EK

set_option Elab.async false
set_option linter.all false
set_option maxRecDepth 100000
set_option maxHeartbeats 4000000
namespace EK
open PySem L2 PySem.Spec PyProof.Rows
/-! ### texts that the law draws -/
theorem lc_indL {cond elt : Gam → Sto → R} {tg : Tg} {Γ : Gam} {I : List D → Sto → Prop} (N : Nat) : ∀ {xs acc : List D} {S : Sto}, acc.length + xs.length ≤ N → I acc S → (∀ x ∈ xs, ∀ acc S, acc.length < N → I acc S → ∃ Γ' d S', setTg tg x Γ = some Γ' ∧ cond Γ' S = .ok (.bl true) S ∧ elt Γ' S = .ok d S' ∧ noLoc d = true ∧ I (acc ++ [d]) S') →
    ∃ out S', lcLoop cond elt tg Γ xs acc S = .ok (.lst out) S' ∧ I out S' ∧ out.length = acc.length + xs.length
  | [], acc, S, _, h0, _ => ⟨acc, S, by simp [lcLoop], h0, rfl⟩
  | x :: xs, acc, S, hN, h0, h => by
    rw [List.length_cons] at hN
    obtain ⟨Γ', d, S', h1, h2, h3, h4, h5⟩ := h x (List.mem_cons_self ..) acc S (by omega) h0
    obtain ⟨out, S2, e, q, l⟩ := lc_indL N (xs := xs) (by rw [List.length_append, List.length_singleton]; omega) h5 fun y hy => h y (List.mem_cons_of_mem _ hy)
    refine ⟨out, S2, ?_, q, by rw [l, List.length_append, List.length_singleton, List.length_cons]; omega⟩
    unfold lcLoop
    rw [h1]
    dsimp only
    rw [h2]
    dsimp only
    rw [h3]
    dsimp only
    rw [if_pos h4, e]
theorem cut_fromA {α : Type} {xs : List α} {s : Nat} : cutL xs (some (s : Int)) none = xs.drop s := by
  by_cases h : s ≤ xs.length
  · exact cut_from h
  · unfold cutL
    rw [HT.sIx_nat, HT.sIx_none, Nat.min_eq_right (by omega), List.drop_of_length_le (Nat.le_refl _), List.drop_of_length_le (by omega : xs.length ≤ s)]
    simp
theorem sl_from {t : List Nat} {i : Int} {s : Nat} (h : t.length ≤ szL) (e : i = s) : slD (.str t) (some i) none = some (.str (t.drop s)) := by
  subst e
  show (if t.length ≤ szL then some (D.str (cutL t _ none)) else none) = _
  rw [if_pos h, cut_fromA]
theorem sl_to {t : List Nat} {i : Int} {s : Nat} (h : t.length ≤ szL) (e : i = s) : slD (.str t) none (some i) = some (.str (t.take s)) := by
  subst e
  show (if t.length ≤ szL then some (D.str (cutL t none _)) else none) = _
  rw [if_pos h, cut_to]
theorem add_str {s t : List Nat} (h : s.length + t.length ≤ szL) : addD (.str s) (.str t) = some (.str (s ++ t)) := by
  show (if s.length + t.length ≤ szL then some (D.str (s ++ t)) else none) = _
  rw [if_pos h]
def lineW (p b st : Int) (n : Nat) : List Nat := (List.range n).map fun k : Nat => if (p * (k : Int) + st) / b < (p * ((k + 1 : Nat) : Int) + st) / b then 98 else 97
theorem lineW_len (p b st : Int) (n : Nat) : (lineW p b st n).length = n := by simp [lineW]
theorem lineW_wd (p b st : Int) (n : Nat) : Wd (lineW p b st n) := by
  intro c hc
  obtain ⟨k, _, rfl⟩ := List.mem_map.mp hc
  split
  · exact .inr rfl
  · exact .inl rfl
def eLine1 : CE := .bin .FloorDiv (.bin .Add (.bin .Mult (.var 0) (.var 5)) (.var 2)) (.var 1)
def eLine2 : CE := .ite (.cmp .Gt (.var 7) (.var 6)) (.con (.str [98])) (.con (.str [97]))
def bLine : List CS := [.set (.one 4) (.lc eLine1 (.one 5) .rng [.bin .Add (.var 3) (.con (.int 1))] (.con (.bl true)) [("_law_k", 5)]),
  .ret (.mth .join (.con (.str [])) (.lc eLine2 (.many [6, 7]) .zip [.var 4, .sl (.var 4) (.con (.int 1)) (.con .non)] (.con (.bl true)) [("_law_near", 6), ("_law_far", 7)]))]
def LnOk (F : Fsem) : Prop := ∀ (p b st : Int) (n : Nat) (S : Sto), 0 ≤ p → p < 2 ^ 50 → 0 < b → b < 2 ^ 50 → n ≤ 1000 → F [.int p, .int b, .int st, .int n] S = .ok (.str (lineW p b st n)) S
section
variable {Φ Φf : Str → Option Fsem} {G : Str → Option D} {fuel : Nat}
theorem lnOk : LnOk (fsem Φ Φf G fuel 4 8 bLine) := by
  intro p b st n S hp hp2 hb hb2 hn
  have h62 : in62 ((n : Int) + 1) = true := in62_of (by omega) (by omega)
  have hnn : ((n : Int) + 1).toNat = n + 1 := by omega
  have e0 : lcLoop (fun _ S => .ok (.bl true) S) (ev Φ G eLine1) (.one 5) [some (.int p), some (.int b), some (.int st), some (.int n), none, none, none, none] ((List.range (n + 1)).map fun i : Nat => D.int (i : Int)) [] S = .ok (.lst ((List.range (n + 1)).map fun k : Nat => D.int ((p * (k : Int) + st) / b))) S := by
    rw [lc_at (fun i : Nat => D.int (i : Int)) (fun k : Nat => D.int ((p * (k : Int) + st) / b)) _ _ fun k hk => ⟨_, rfl, rfl, ?_, rfl⟩]
    · rfl
    · have m := mul_l (i := p) (j := (k : Int)) (small_of hp (by omega))
      have f := fdiv_pos (i := p * (k : Int) + st) hb (by omega)
      simp [eLine1, m, f]
  have ecut : slD (.lst ((List.range (n + 1)).map fun k : Nat => D.int ((p * (k : Int) + st) / b))) (some 1) none = some (.lst ((List.range n).map fun k : Nat => D.int ((p * ((k + 1 : Nat) : Int) + st) / b))) := by
    show some (D.lst (cutL _ (some ((1 : Nat) : Int)) none)) = _
    rw [cut_fromA, drop_range]
    rfl
  have epair : pairs ((List.range (n + 1)).map fun k : Nat => D.int ((p * (k : Int) + st) / b)) ((List.range n).map fun k : Nat => D.int ((p * ((k + 1 : Nat) : Int) + st) / b)) = (List.range n).map fun k : Nat => D.tup [.int ((p * (k : Int) + st) / b), .int ((p * ((k + 1 : Nat) : Int) + st) / b)] := pairs_range _ _ _ _ (by omega)
  have e1 : ∀ X : D, lcLoop (fun _ S => .ok (.bl true) S) (ev Φ G eLine2) (.many [6, 7]) [some (.int p), some (.int b), some (.int st), some (.int n), some X, none, none, none] ((List.range n).map fun k : Nat => D.tup [.int ((p * (k : Int) + st) / b), .int ((p * ((k + 1 : Nat) : Int) + st) / b)]) [] S = .ok (.lst ((List.range n).map fun k : Nat => .str [if (p * (k : Int) + st) / b < (p * ((k + 1 : Nat) : Int) + st) / b then 98 else 97])) S := by
    intro X
    rw [lc_at (fun k : Nat => D.tup [.int ((p * (k : Int) + st) / b), .int ((p * ((k + 1 : Nat) : Int) + st) / b)]) (fun k : Nat => .str [if (p * (k : Int) + st) / b < (p * ((k + 1 : Nat) : Int) + st) / b then 98 else 97]) _ _ fun k hk => ⟨_, rfl, rfl, ?_, rfl⟩]
    · rfl
    · by_cases hc : (p * (k : Int) + st) / b < (p * ((k + 1 : Nat) : Int) + st) / b
      · have hc' := hc
        simp only [Int.natCast_add, Int.natCast_one] at hc'
        simp [eLine2, hc']
      · have hc' := hc
        simp only [Int.natCast_add, Int.natCast_one] at hc'
        simp [eLine2, hc']
  have hj := join_letters (f := fun k : Nat => if (p * (k : Int) + st) / b < (p * ((k + 1 : Nat) : Int) + st) / b then 98 else 97) (ks := List.range n) (by rw [List.length_range]; show n ≤ 16777216; omega)
  simp only [Int.natCast_add, Int.natCast_one] at ecut epair e1 hj
  have hle : n + 1 ≤ 16777216 := by omega
  have hle2 : n ≤ 16777216 := by omega
  simp [bLine, it_rng1 h62 hnn, rng0, e0, szL, hle, hle2, ecut, epair, e1, hj, lineW]
def eLetters : CE := .call "_law_of" [.var 0, .con (.str [97, 98])]
def bLetters : List CS := [.ret (.mth .join (.con (.str [])) (.lc eLetters (.one 2) .rng [.var 1] (.con (.bl true)) [("_law_k", 2)]))]
def LtOk (F : Fsem) : Prop := ∀ (b : Int) (n : Nat) (S : Sto), DS b S → b < 2 ^ 40 → n ≤ 1000 → ∃ w S', F [.loc 0, .int n] S = .ok (.str w) S' ∧ Wd w ∧ w.length = n ∧ DS (b + n) S'
theorem ltOk {F : Fsem} (e : Φ "_law_of" = some F) (h : OfOk F) : LtOk (fsem Φ Φf G fuel 2 3 bLetters) := by
  intro b n S hd hb hn
  have t0 := take1 hd
  have hstep : ∀ x ∈ ((List.range n).map fun i : Nat => D.int (i : Int)), ∀ (acc : List D) (S1 : Sto), acc.length < n → (∃ w : List Nat, acc = w.map (fun c => .str [c]) ∧ Wd w ∧ DS (b + w.length) S1) →
      ∃ Γ' d S', setTg (.one 2) x [some (.loc 0), some (.int n), none] = some Γ' ∧ (fun (_ : Gam) (S : Sto) => R.ok (.bl true) S) Γ' S1 = .ok (.bl true) S1 ∧ ev Φ G eLetters Γ' S1 = .ok d S' ∧ noLoc d = true ∧ ∃ w : List Nat, acc ++ [d] = w.map (fun c => .str [c]) ∧ Wd w ∧ DS (b + w.length) S' := by
    intro x hx acc S1 hlt hI
    obtain ⟨w, rfl, hw, hD⟩ := hI
    rw [List.length_map] at hlt
    obtain ⟨c, S2, c1, c2, c3⟩ := h.2 (b + w.length) [97, 98] S1 hD (by omega) (by simp) (by decide)
    refine ⟨_, .str [c], S2, rfl, rfl, ?_, rfl, w ++ [c], by simp, ?_, ?_⟩
    · obtain ⟨k, _, rfl⟩ := List.mem_map.mp hx
      simp [eLetters, e, c2]
    · intro d hd'
      rcases List.mem_append.mp hd' with q | q
      · exact hw d q
      · rw [List.mem_singleton.mp q]
        simpa using c1
    · rw [List.length_append, List.length_singleton]
      have : b + ((w.length + 1 : Nat) : Int) = b + w.length + 1 := by omega
      rw [this]; exact c3
  obtain ⟨out, S', e1, ⟨w, rfl, hw, hD⟩, hl⟩ := lc_indL n (cond := fun _ S => .ok (.bl true) S) (elt := ev Φ G eLetters) (tg := .one 2) (Γ := [some (.loc 0), some (.int n), none]) (xs := (List.range n).map fun i : Nat => D.int (i : Int)) (acc := []) (S := S)
    (I := fun acc S => ∃ w : List Nat, acc = w.map (fun c => .str [c]) ∧ Wd w ∧ DS (b + w.length) S) (by simp) ⟨[], rfl, (fun c hc => by cases hc), by simpa using hd⟩ hstep
  rw [List.length_map, List.length_map, List.length_range, List.length_nil, Nat.zero_add] at hl
  rw [hl] at hD
  have t := take1 hD
  have h62 : in62 (n : Int) = true := in62_of (by omega) (by omega)
  have hj := join_letters (f := fun c : Nat => c) (ks := w) (by show w.length ≤ 16777216; omega)
  rw [List.map_id'] at hj
  refine ⟨w, S', ?_, hw, hl, hD⟩
  have hle : n ≤ 16777216 := by omega
  simp [bLetters, it_rng1 h62 (by omega : (n : Int).toNat = n), rng0, szL, hle, e1, hj, t0.2, t.1]
def bEvenText : List CS := [.set (.one 2) (.bin .Add (.con (.int 1)) (.call "_law_draw" [.var 0, .con (.int 12)])),
  .ret (.call "_law_line" [.call "_law_draw" [.var 0, .bin .Add (.var 2) (.con (.int 1))], .var 2, .call "_law_draw" [.var 0, .var 2], .var 1])]
def EtOk (F : Fsem) : Prop := ∀ (b : Int) (n : Nat) (S : Sto), DS b S → b < 2 ^ 40 → n ≤ 1000 → ∃ w S', F [.loc 0, .int n] S = .ok (.str w) S' ∧ Wd w ∧ w.length = n ∧ DS (b + 3) S'
theorem etOk {Fd Fl : Fsem} (ed : Φ "_law_draw" = some Fd) (hd : DrawOk Fd) (el : Φ "_law_line" = some Fl) (hl : LnOk Fl) : EtOk (fsem Φ Φf G fuel 2 3 bEvenText) := by
  intro b n S h0 hb hn
  have t0 := take1 h0
  obtain ⟨r1, S1, e1, a1, a2, h1⟩ := hd b 12 S h0 (by omega) (by omega) (by omega)
  obtain ⟨r2, S2, e2, a3, a4, h2⟩ := hd (b + 1) (1 + r1 + 1) S1 h1 (by omega) (by omega) (by omega)
  obtain ⟨r3, S3, e3, a5, a6, h3⟩ := hd (b + 1 + 1) (1 + r1) S2 h2 (by omega) (by omega) (by omega)
  have e4 := hl r2 (1 + r1) r3 n S3 a3 (by omega) (by omega) (by omega) hn
  have t := take1 h3
  refine ⟨lineW r2 (1 + r1) r3 n, S3, ?_, lineW_wd _ _ _ _, lineW_len _ _ _ _, h3.mono (by omega)⟩
  simp [bEvenText, ed, el, e1, e2, e3, e4, t0.2, t.1]
def lNear : List CS := [.set (.one 4) (.call "_law_draw" [.var 0, .bin .Add (.var 1) (.con (.int 1))]),
  .set (.one 2) (.bin .Add (.bin .Add (.sl (.var 2) (.con .non) (.var 4)) (.call "_law_of" [.var 0, .lst [.con (.str [97]), .con (.str [98]), .con (.str [])]])) (.sl (.var 2) (.bin .Add (.var 4) (.con (.int 1))) (.con .non)))]
def bNear : List CS := [.set (.one 2) (.call "_law_even_text" [.var 0, .var 1]),
  .loop (.one 3) .rng [.call "_law_of" [.var 0, .lst [.con (.int 0), .con (.int 0), .con (.int 1), .con (.int 2)]]] lNear,
  .ret (.ite (.cmp .Gt (.call "_law_draw" [.var 0, .con (.int 4)]) (.con (.int 0))) (.var 2) (.call "_law_letters" [.var 0, .var 1]))]
def NtOk (F : Fsem) : Prop := ∀ (b : Int) (n : Nat) (S : Sto), DS b S → b < 2 ^ 39 → n ≤ 300 → ∃ w S', F [.loc 0, .int n] S = .ok (.str w) S' ∧ Wd w ∧ w.length ≤ n + 2 ∧ DS (b + 500) S'
theorem nt_body {Fd Fo : Fsem} (ed : Φ "_law_draw" = some Fd) (hd : DrawOk Fd) (eo : Φ "_law_of" = some Fo) (ho : OfOk Fo) {b : Int} {n : Nat} {S : Sto} {n0 : Nat} {t : List Nat} {x y : Option D} (h0 : DS b S) (hb : b < 2 ^ 40) (hn : n ≤ 1000) (ht : Wd t) (hl : t.length ≤ 2000) :
    ∃ t' r S', exSs Φ Φf G fuel n0 lNear [some (.loc 0), some (.int n), some (.str t), x, y] S = .next [some (.loc 0), some (.int n), some (.str t'), x, some (.int r)] S' ∧ Wd t' ∧ t'.length ≤ t.length + 1 ∧ DS (b + 2) S' := by
  have hz : szL = 16777216 := rfl
  obtain ⟨r, S1, e1, a1, a2, h1⟩ := hd b (n + 1) S h0 (by omega) (by omega) (by omega)
  obtain ⟨c, S2, c1, c2, c3⟩ := ho.1 (b + 1) [.str [97], .str [98], .str []] S1 h1 (by omega) (by simp) (by simp) (by simp)
  have s1 := sl_to (t := t) (i := r) (s := r.toNat) (by omega) (by omega)
  have s2 := sl_from (t := t) (i := r + 1) (s := r.toNat + 1) (by omega) (by omega)
  have fin : ∀ u : List Nat, c = .str u → Wd u → u.length ≤ 1 → ∃ t' r S', exSs Φ Φf G fuel n0 lNear [some (.loc 0), some (.int n), some (.str t), x, y] S = .next [some (.loc 0), some (.int n), some (.str t'), x, some (.int r)] S' ∧ Wd t' ∧ t'.length ≤ t.length + 1 ∧ DS (b + 2) S' := by
    intro u hu wu lu
    subst hu
    have l1 : (t.take r.toNat).length ≤ t.length := by rw [List.length_take]; omega
    have l2 : (t.drop (r.toNat + 1)).length ≤ t.length := by rw [List.length_drop]; omega
    have l3 : (t.take r.toNat).length + (t.drop (r.toNat + 1)).length ≤ t.length := by rw [List.length_take, List.length_drop]; omega
    have p1 := add_str (s := t.take r.toNat) (t := u) (by omega)
    have p2 := add_str (s := t.take r.toNat ++ u) (t := t.drop (r.toNat + 1)) (by rw [List.length_append]; omega)
    refine ⟨t.take r.toNat ++ u ++ t.drop (r.toNat + 1), r, S2, ?_, ?_, ?_, ?_⟩
    · simp only [List.append_assoc] at p2
      simp [lNear, ed, eo, e1, c2, s1, s2, p1, p2, szL]
    · intro d hd
      rcases List.mem_append.mp hd with q | q
      · rcases List.mem_append.mp q with q | q
        · exact ht d (List.mem_of_mem_take q)
        · exact wu d q
      · exact ht d (List.mem_of_mem_drop q)
    · rw [List.length_append, List.length_append]; omega
    · exact c3.mono (by omega)
  simp only [List.mem_cons, List.not_mem_nil, or_false] at c1
  rcases c1 with rfl | rfl | rfl
  · exact fin _ rfl (fun d hd => .inl (List.mem_singleton.mp hd)) (Nat.le_refl _)
  · exact fin _ rfl (fun d hd => .inr (List.mem_singleton.mp hd)) (Nat.le_refl _)
  · exact fin _ rfl (fun d hd => by cases hd) (Nat.zero_le _)
theorem ntOk {Fd Fo Fe Fl : Fsem} (ed : Φ "_law_draw" = some Fd) (hd : DrawOk Fd) (eo : Φ "_law_of" = some Fo) (ho : OfOk Fo) (ee : Φ "_law_even_text" = some Fe) (he : EtOk Fe) (el : Φ "_law_letters" = some Fl) (hl : LtOk Fl) : NtOk (fsem Φ Φf G fuel 2 5 bNear) := by
  intro b n S h0 hb hn
  have t0 := take1 h0
  obtain ⟨w, S1, e1, w1, w2, h1⟩ := he b n S h0 (by omega) (by omega)
  obtain ⟨c, S2, c1, c2, h2⟩ := ho.1 (b + 3) [.int 0, .int 0, .int 1, .int 2] S1 h1 (by omega) (by simp) (by simp) (by simp)
  have hc : ∃ m : Nat, c = .int m ∧ m ≤ 2 := by
    simp only [List.mem_cons, List.not_mem_nil, or_false] at c1
    rcases c1 with rfl | rfl | rfl | rfl
    · exact ⟨0, rfl, by omega⟩
    · exact ⟨0, rfl, by omega⟩
    · exact ⟨1, rfl, by omega⟩
    · exact ⟨2, rfl, by omega⟩
  obtain ⟨m, rfl, hm⟩ := hc
  have key := loop0 (body := exSs Φ Φf G fuel S.length lNear) (tg := .one 3) (items := rngL 0 m)
    (fun i Γ S' => i ≤ m ∧ DS (b + 4 + 2 * i) S' ∧ ∃ t x y, Γ = [some (.loc 0), some (.int n), some (.str t), x, y] ∧ Wd t ∧ t.length ≤ n + i)
    (fun r => ∃ t x y S', r = .next [some (.loc 0), some (.int n), some (.str t), x, y] S' ∧ Wd t ∧ t.length ≤ n + 2 ∧ DS (b + 8) S')
    (Γ := [some (.loc 0), some (.int n), some (.str w), none, none]) (S := S2)
    ⟨Nat.zero_le _, h2.mono (by omega), w, _, _, rfl, w1, by omega⟩ (fun i x Γ S' hi hI => ?_) (fun Γ S' ⟨q1, q2, t, x, y, q3, q4, q5⟩ => ⟨t, x, y, S', by rw [q3], q4, by omega, q2.mono (by omega)⟩)
  · obtain ⟨t, x, y, S3, e3, t1, t2, h3⟩ := key
    rw [t0.2] at e3
    have h62 : in62 (m : Int) = true := in62_of (by omega) (by omega)
    obtain ⟨r, S4, e4, a1, a2, h4⟩ := hd (b + 8) 4 S3 h3 (by omega) (by omega) (by omega)
    by_cases hr : 0 < r
    · have tt := take1 h4
      refine ⟨t, S4, ?_, t1, t2, h4.mono (by omega)⟩
      simp [bNear, ee, eo, ed, e1, c2, szL, it_rng1 h62 (by omega : (m : Int).toNat = m), e3, e4, hr, t0.2, tt.1]
    · obtain ⟨v, S5, e5, v1, v2, h5⟩ := hl (b + 8 + 1) n S4 h4 (by omega) (by omega)
      have tt := take1 h5
      refine ⟨v, S5, ?_, v1, by omega, h5.mono (by omega)⟩
      simp [bNear, ee, eo, ed, el, e1, c2, szL, it_rng1 h62 (by omega : (m : Int).toNat = m), e3, e4, hr, e5, t0.2, tt.1]
  · obtain ⟨q1, q2, t, y, z, rfl, t1, t2⟩ := hI
    obtain ⟨hi1, hi2⟩ := rngAt hi
    subst hi2
    obtain ⟨t', r, S4, e4, t3, t4, h4⟩ := nt_body (Φ := Φ) (Φf := Φf) (G := G) (fuel := fuel) (n0 := S.length) (x := some (.int (0 + (i : Int)))) (y := z) ed hd eo ho q2 (by omega) (n := n) (by omega) t1 (by omega)
    exact ⟨_, rfl, .inl ⟨_, _, e4, by omega, h4.mono (by omega), t', _, _, rfl, t3, by omega⟩⟩
end
end EK

set_option Elab.async false
set_option linter.all false
set_option maxRecDepth 100000
set_option maxHeartbeats 4000000
namespace EK
open PySem L2 PySem.Spec PyProof.Rows
theorem part_len {w : List Nat} {b L : Nat} (h : b + L ≤ w.length) : (Part w b L).length = L := by
  unfold Part
  rw [List.length_take, List.length_drop]; omega
theorem sl_part {w : List Nat} {i j : Int} {b L : Nat} (h : b + L ≤ w.length) (hz : w.length ≤ szL) (e1 : i = b) (e2 : j = ((b + L : Nat) : Int)) : slD (.str w) (some i) (some j) = some (.str (Part w b L)) := by
  subst e1 e2
  show (if w.length ≤ szL then some (D.str (cutL w _ _)) else none) = _
  rw [if_pos hz, cut_both (by omega) h, show b + L - b = L by omega]; rfl
theorem rngS_len {a c : Int} {n : Nat} : (rngS a c n).length = n := by simp [rngS]
theorem rngSAt {a c : Int} {n i : Nat} {x : D} (h : (rngS a c n)[i]? = some x) : i < n ∧ x = .int (a + i * c) := by
  have h1 := (List.getElem?_eq_some_iff.mp h).1
  rw [rngS_len] at h1
  unfold rngS at h
  rw [List.getElem?_map, List.getElem?_range h1] at h
  exact ⟨h1, (Option.some.inj h).symm⟩
theorem it_rng3 {a b : Int} {m : Nat} (h : in62 a = true) (h2 : in62 b = true) (e : (a - b).toNat = m) : itD .rng [.int a, .int b, .int (-1)] = some (rngS a (-1) m) := by
  show (if (-1 : Int) = -1 ∧ in62 a = true ∧ in62 b = true then some (rngS a (-1) (a - b).toNat) else none) = _
  rw [if_pos ⟨rfl, h, h2⟩, e]
theorem noU_nil : NoU [] := fun t h1 h2 => by rw [List.length_nil] at h2; omega
def lLong2 : List CS := [.ite (.cmp .Is (.call "_law_spread" [.sl (.var 0) (.var 2) (.bin .Add (.var 2) (.var 1))]) (.con .non)) [.ret (.sl (.var 0) (.var 2) (.bin .Add (.var 2) (.var 1)))] []]
def lLong1 : List CS := [.loop (.one 2) .rng [.bin .Add (.bin .Sub (.blt .len [.var 0]) (.var 1)) (.con (.int 1))] lLong2]
def bLong : List CS := [.loop (.one 1) .rng [.blt .len [.var 0], .con (.int 0), .neg (.con (.int 1))] lLong1,
  .ret (.con (.str []))]
section
variable {Φ Φf : Str → Option Fsem} {G : Str → Option D} {fuel : Nat}
theorem llOk {F : Fsem} (e : Φ "_law_spread" = some F) (h : SpOk F) : LgOk (fsem Φ Φf G fuel 1 3 bLong) := by
  intro w S hw h4
  have hz : szL = 16777216 := rfl
  have hsz := lt_sz h4
  have hle : w.length ≤ szL := by omega
  have in0 : in62 0 = true := rfl
  have inn : in62 (w.length : Int) = true := in62_of (by omega) (by omega)
  -- a turn of the inner loop
  have hb2 : ∀ b L : Nat, b + L ≤ w.length → (NoU (Part w b L) ∧ exSs Φ Φf G fuel S.length lLong2 [some (.str w), some (.int L), some (.int b)] S = .ret (.str (Part w b L)) S false) ∨
      (¬ NoU (Part w b L) ∧ exSs Φ Φf G fuel S.length lLong2 [some (.str w), some (.int L), some (.int b)] S = .next [some (.str w), some (.int L), some (.int b)] S) := by
    intro b L hbl
    have s1 := sl_part (w := w) (i := (b : Int)) (j := (b : Int) + L) hbl hle rfl (by omega)
    rcases h (Part w b L) S (by rw [part_len hbl]; omega) with ⟨q1, q2⟩ | ⟨s, q1, q2⟩
    · left
      refine ⟨q1, ?_⟩
      have c : cmpD .Is .non .non = some (.bl true) := rfl
      simp [lLong2, s1, e, q2, c]
    · right
      refine ⟨fun z => q1.no z, ?_⟩
      have c : cmpD .Is (.int s) .non = some (.bl false) := rfl
      simp [lLong2, s1, e, q2, c]
  -- the inner loop
  have hb1 : ∀ L : Nat, 1 ≤ L → L ≤ w.length → ∀ x, (∃ b, b + L ≤ w.length ∧ NoU (Part w b L) ∧ (∀ b', b' < b → ¬ NoU (Part w b' L)) ∧ exSs Φ Φf G fuel S.length lLong1 [some (.str w), some (.int L), x] S = .ret (.str (Part w b L)) S false) ∨
      ((∀ b', b' + L ≤ w.length → ¬ NoU (Part w b' L)) ∧ ∃ y, exSs Φ Φf G fuel S.length lLong1 [some (.str w), some (.int L), x] S = .next [some (.str w), some (.int L), y] S) := by
    intro L h1 h2 x
    have key := loop0 (body := exSs Φ Φf G fuel S.length lLong2) (tg := .one 2) (items := rngL 0 (w.length - L + 1))
      (fun i Γ S' => S' = S ∧ (∃ y, Γ = [some (.str w), some (.int L), y]) ∧ ∀ b', b' < i → ¬ NoU (Part w b' L))
      (fun r => (∃ b, b + L ≤ w.length ∧ NoU (Part w b L) ∧ (∀ b', b' < b → ¬ NoU (Part w b' L)) ∧ r = .ret (.str (Part w b L)) S false) ∨ ((∀ b', b' + L ≤ w.length → ¬ NoU (Part w b' L)) ∧ ∃ y, r = .next [some (.str w), some (.int L), y] S))
      (Γ := [some (.str w), some (.int L), x]) (S := S) ⟨rfl, ⟨_, rfl⟩, fun b' z => by omega⟩ (fun i y Γ S' hi hI => ?_) (fun Γ S' ⟨q1, ⟨y, q2⟩, q3⟩ => .inr ⟨fun b' z => q3 b' (by rw [rng_len]; omega), y, by rw [q1, q2]⟩)
    · have hin : in62 ((w.length : Int) - L + 1) = true := in62_of (by omega) (by omega)
      have ht : ((w.length : Int) - L + 1).toNat = w.length - L + 1 := by omega
      rcases key with ⟨b, k1, k2, k3, k4⟩ | ⟨k1, y, k4⟩
      · left
        refine ⟨b, k1, k2, k3, ?_⟩
        simp [lLong1, lenS hle, it_rng1 hin ht, k4]
      · right
        refine ⟨k1, y, ?_⟩
        simp [lLong1, lenS hle, it_rng1 hin ht, k4]
    · obtain ⟨rfl, ⟨z, rfl⟩, q⟩ := hI
      obtain ⟨hi1, hi2⟩ := rngAt hi
      subst hi2
      rw [Int.zero_add]
      refine ⟨_, rfl, ?_⟩
      rcases hb2 i L (by omega) with ⟨u1, u2⟩ | ⟨u1, u2⟩
      · exact .inr ⟨_, _, _, u2, .inl ⟨i, by omega, u1, q, rfl⟩⟩
      · refine .inl ⟨_, _, u2, rfl, ⟨_, rfl⟩, fun b' hb' => ?_⟩
        by_cases e : b' = i
        · subst e; exact u1
        · exact q b' (by omega)
  have key := loop0 (body := exSs Φ Φf G fuel S.length lLong1) (tg := .one 1) (items := rngS w.length (-1) w.length)
    (fun i Γ S' => S' = S ∧ (∃ x y, Γ = [some (.str w), x, y]) ∧ ∀ b' L', b' + L' ≤ w.length → NoU (Part w b' L') → L' + i ≤ w.length)
    (fun r => (∃ v, Lgst w v ∧ r = .ret (.str v) S false) ∨ (Lgst w [] ∧ ∃ Γ, r = .next Γ S))
    (Γ := [some (.str w), none, none]) (S := S) ⟨rfl, ⟨_, _, rfl⟩, fun b' L' z _ => by omega⟩ (fun i x Γ S' hi hI => ?_) (fun Γ S' ⟨q1, ⟨x, y, q2⟩, q3⟩ => .inr ⟨?_, Γ, by rw [q1]⟩)
  · have ht : ((w.length : Int) - 0).toNat = w.length := by omega
    rcases key with ⟨v, k1, k2⟩ | ⟨k1, Γ, k2⟩
    · refine ⟨v, k1, ?_⟩
      simp [bLong, lenS hle, it_rng3 inn in0 ht, k2]
    · refine ⟨[], k1, ?_⟩
      simp [bLong, lenS hle, it_rng3 inn in0 ht, k2]
  · obtain ⟨rfl, ⟨y, z, rfl⟩, q⟩ := hI
    obtain ⟨hi1, hi2⟩ := rngSAt hi
    subst hi2
    have e : D.int ((w.length : Int) + (i : Int) * -1) = D.int ((w.length - i : Nat) : Int) := by
      congr 1; omega
    rw [e]
    refine ⟨_, rfl, ?_⟩
    rcases hb1 (w.length - i) (by omega) (by omega) z with ⟨b, k1, k2, k3, k4⟩ | ⟨k1, y', k4⟩
    · refine .inr ⟨_, _, _, k4, .inl ⟨_, ⟨b, w.length - i, k1, rfl, k2, fun b' L' g1 g2 => ?_⟩, rfl⟩⟩
      have := q b' L' g1 g2
      by_cases hl : L' = w.length - i
      · refine .inr ⟨hl, ?_⟩
        subst hl
        exact Nat.le_of_not_lt fun z => k3 b' z g2
      · left; omega
    · refine .inl ⟨_, _, k4, rfl, ⟨_, _, rfl⟩, fun b' L' g1 g2 => ?_⟩
      have := q b' L' g1 g2
      by_cases hl : L' = w.length - i
      · subst hl
        exact absurd g2 (k1 b' g1)
      · omega
  · rw [rngS_len] at q3
    refine ⟨0, 0, by omega, by simp [Part], noU_nil, fun b' L' g1 g2 => ?_⟩
    have := q3 b' L' g1 g2
    right
    omega
end
end EK

set_option Elab.async false
set_option linter.all false
set_option maxRecDepth 100000
set_option maxHeartbeats 4000000
namespace EK
open PySem L2 PySem.Spec PyProof.Rows
/-! ### parts of a word and their windows -/
theorem cnt_part {w : List Nat} {b L i : Nat} (h : i ≤ L) : cnt (Part w b L) i = cnt w (b + i) - cnt w b := by
  unfold cnt Part
  rw [List.take_take, Nat.min_eq_left h, List.take_add, List.count_append]
  omega
theorem win_part {w : List Nat} {b L s p : Nat} (h : p + s ≤ L) : win (Part w b L) s p = win w s (b + p) := by
  unfold win
  rw [cnt_part h, cnt_part (by omega), show b + (p + s) = b + p + s by omega]
  omega
theorem cnt_step {w : List Nat} {i : Nat} : 0 ≤ cnt w (i + 1) - cnt w i ∧ cnt w (i + 1) - cnt w i ≤ 1 := by
  cases h : w[i]? with
  | none =>
    have hl := List.getElem?_eq_none_iff.mp h
    unfold cnt
    rw [List.take_of_length_le (by omega), List.take_of_length_le hl]
    omega
  | some c =>
    rw [cnt_succ h]
    split <;> omega
theorem win_step {w : List Nat} {s p : Nat} : -1 ≤ win w s (p + 1) - win w s p ∧ win w s (p + 1) - win w s p ≤ 1 := by
  unfold win
  have h1 := cnt_step (w := w) (i := p + s)
  have h2 := cnt_step (w := w) (i := p)
  rw [show p + 1 + s = p + s + 1 by omega]
  omega
/-- windows change by one: between two that are far apart lies one at distance two -/
theorem win_two {w : List Nat} {s p : Nat} : ∀ m : Nat, (2 ≤ win w s (p + m) - win w s p ∨ 2 ≤ win w s p - win w s (p + m)) → ∃ t, 0 < t ∧ t ≤ m ∧ (win w s (p + t) - win w s p = 2 ∨ win w s p - win w s (p + t) = 2)
  | 0, h => by
    rw [Nat.add_zero] at h
    omega
  | m + 1, h => by
    have st := win_step (w := w) (s := s) (p := p + m)
    rw [show p + m + 1 = p + (m + 1) by omega] at st
    by_cases h2 : win w s (p + (m + 1)) - win w s p = 2 ∨ win w s p - win w s (p + (m + 1)) = 2
    · exact ⟨m + 1, by omega, Nat.le_refl _, h2⟩
    · obtain ⟨t, t1, t2, t3⟩ := win_two (w := w) (s := s) (p := p) m (by omega)
      exact ⟨t, t1, by omega, t3⟩
/-- p begins a window that lies apart by two from a later one, all within e -/
def Vb (w : List Nat) (p e : Nat) : Prop := ∃ s q, 2 ≤ s ∧ p < q ∧ q + s ≤ e ∧ (win w s q - win w s p = 2 ∨ win w s p - win w s q = 2)
theorem noU_part {w : List Nat} {b e : Nat} (hb : b ≤ e) (he : e ≤ w.length) : NoU (Part w b (e - b)) ↔ ∀ p, Vb w p e → p < b := by
  have hl : (Part w b (e - b)).length = e - b := part_len (by omega)
  constructor
  · intro h p ⟨s, q, h1, h2, h3, h4⟩
    refine Nat.lt_of_not_le fun hp => ?_
    refine h s (by omega) (by rw [hl]; omega) ?_
    rcases h4 with h4 | h4
    · refine ⟨q - b, p - b, by rw [hl]; omega, by rw [hl]; omega, ?_⟩
      rw [win_part (by omega), win_part (by omega), show b + (q - b) = q by omega, show b + (p - b) = p by omega]
      omega
    · refine ⟨p - b, q - b, by rw [hl]; omega, by rw [hl]; omega, ?_⟩
      rw [win_part (by omega), win_part (by omega), show b + (q - b) = q by omega, show b + (p - b) = p by omega]
      omega
  · intro h s h1 h2 ⟨p, q, h3, h4, h5⟩
    rw [hl] at h2 h3 h4
    rw [win_part (by omega), win_part (by omega)] at h5
    have hs : 2 ≤ s := by
      by_cases e1 : s = 1
      · subst e1
        have := win_one (w := w) (p := b + p) (by omega)
        have := win_one (w := w) (p := b + q) (by omega)
        omega
      · omega
    rcases Nat.lt_trichotomy p q with c | c | c
    · obtain ⟨t, t1, t2, t3⟩ := win_two (w := w) (s := s) (p := b + p) (q - p) (by rw [show b + p + (q - p) = b + q by omega]; omega)
      have := h (b + p) ⟨s, b + p + t, hs, by omega, by omega, t3⟩
      omega
    · subst c; omega
    · obtain ⟨t, t1, t2, t3⟩ := win_two (w := w) (s := s) (p := b + q) (p - q) (by rw [show b + q + (p - q) = b + p by omega]; omega)
      have := h (b + q) ⟨s, b + q + t, hs, by omega, by omega, t3⟩
      omega
/-- f is the least number above all p with P -/
def Mx (P : Nat → Prop) (f : Nat) : Prop := (f = 0 ∨ ∃ p, f = p + 1 ∧ P p) ∧ ∀ p, P p → p < f
theorem Mx.or {P Q : Nat → Prop} {f g : Nat} (h : Mx P f) (h' : Mx Q g) : Mx (fun p => P p ∨ Q p) (max f g) := by
  constructor
  · by_cases c : f ≤ g
    · rw [Nat.max_eq_right c]
      rcases h'.1 with q | ⟨p, q1, q2⟩
      · exact .inl q
      · exact .inr ⟨p, q1, .inr q2⟩
    · rw [Nat.max_eq_left (by omega)]
      rcases h.1 with q | ⟨p, q1, q2⟩
      · exact .inl q
      · exact .inr ⟨p, q1, .inl q2⟩
  · intro p hp
    rcases hp with hp | hp
    · have := h.2 p hp; omega
    · have := h'.2 p hp; omega
theorem Mx.iff {P Q : Nat → Prop} {f : Nat} (h : Mx P f) (e : ∀ p, P p ↔ Q p) : Mx Q f := by
  constructor
  · rcases h.1 with q | ⟨p, q1, q2⟩
    · exact .inl q
    · exact .inr ⟨p, q1, (e p).mp q2⟩
  · exact fun p hp => h.2 p ((e p).mpr hp)
theorem noU_mx {w : List Nat} {b e f : Nat} (h : Mx (fun p => Vb w p e) f) (hb : b ≤ e) (he : e ≤ w.length) : NoU (Part w b (e - b)) ↔ f ≤ b := by
  rw [noU_part hb he]
  constructor
  · intro q
    rcases h.1 with z | ⟨p, z1, z2⟩
    · omega
    · have := q p z2; omega
  · intro q p hp
    have := h.2 p hp; omega
/-- from the table of begins to the longest part -/
theorem lgst_of {w : List Nat} {f : Nat → Nat} {e : Nat} (hf : ∀ e, e ≤ w.length → Mx (fun p => Vb w p e) (f e) ∧ f e ≤ e) (he : e ≤ w.length) (hm : ∀ e', e' ≤ w.length → e' - f e' < e - f e ∨ (e' - f e' = e - f e ∧ f e ≤ f e')) : Lgst w (Part w (f e) (e - f e)) := by
  have h1 := (hf e he).2
  refine ⟨f e, e - f e, by omega, rfl, (noU_mx (hf e he).1 h1 he).mpr (Nat.le_refl _), fun b' L' g1 g2 => ?_⟩
  have h2 := hf (b' + L') g1
  have g3 : NoU (Part w b' (b' + L' - b')) := by rw [show b' + L' - b' = L' by omega]; exact g2
  have h3 := (noU_mx h2.1 (by omega) g1).mp g3
  have h4 := hm (b' + L') g1
  omega
theorem vb_lt {w : List Nat} {e f : Nat} (h : Mx (fun p => Vb w p e) f) : f ≤ e := by
  rcases h.1 with z | ⟨p, z1, s, q, z2, z3, z4, _⟩
  · omega
  · omega
end EK

set_option Elab.async false
set_option linter.all false
set_option maxRecDepth 100000
set_option maxHeartbeats 4000000
namespace EK
open PySem L2 PySem.Spec PyProof.Rows
section
variable {S : Sto} {a b x : O}
@[simp] theorem two_get1 : (S ++ [a, b])[S.length]? = some a := by rw [List.getElem?_append_right (Nat.le_refl _), Nat.sub_self]; rfl
@[simp] theorem two_get2 : (S ++ [a, b])[S.length + 1]? = some b := by rw [List.getElem?_append_right (by omega), show S.length + 1 - S.length = 1 by omega]; rfl
@[simp] theorem two_set1 : (S ++ [a, b]).set S.length x = S ++ [x, b] := by rw [List.set_append_right _ _ (Nat.le_refl _), Nat.sub_self]; rfl
@[simp] theorem two_set2 : (S ++ [a, b]).set (S.length + 1) x = S ++ [a, x] := by rw [List.set_append_right _ _ (by omega), show S.length + 1 - S.length = 1 by omega]; rfl
@[simp] theorem two_take : (S ++ [a, b]).take (S.length + 1) = S ++ [a] := by
  rw [List.take_append, List.take_of_length_le (by omega), show S.length + 1 - S.length = 1 by omega]; rfl
@[simp] theorem two_vw1 : vw (S ++ [a, b]) (.loc S.length) = ofO a := by
  show (match (S ++ [a, b])[S.length]? with | some (.lst ds) => .lst ds | some (.dic kvs) => .dic kvs | none => .loc S.length) = ofO a
  rw [two_get1]
  cases a <;> rfl
@[simp] theorem two_vw2 : vw (S ++ [a, b]) (.loc (S.length + 1)) = ofO b := by
  show (match (S ++ [a, b])[S.length + 1]? with | some (.lst ds) => .lst ds | some (.dic kvs) => .dic kvs | none => .loc (S.length + 1)) = ofO b
  rw [two_get2]
  cases b <;> rfl
end
def fL (n : Nat) (f : Nat → Nat) : List D := (List.range (n + 1)).map fun e => D.int (f e : Nat)
theorem fL_len (n : Nat) (f : Nat → Nat) : (fL n f).length = n + 1 := by simp [fL]
theorem fL_get {n e : Nat} {f : Nat → Nat} (h : e ≤ n) : (fL n f)[e]? = some (.int (f e : Nat)) := by
  unfold fL
  rw [List.getElem?_map, List.getElem?_range (by omega)]; rfl
def upF (f : Nat → Nat) (m v : Nat) : Nat → Nat := fun e => if e = m then v else f e
theorem fL_set {n m v : Nat} {f : Nat → Nat} : (fL n f).set m (.int (v : Nat)) = fL n (upF f m v) := by
  apply List.ext_getElem?
  intro i
  unfold fL upF
  rw [List.getElem?_set]
  by_cases hi : i < n + 1
  · rw [List.getElem?_map, List.getElem?_map, List.getElem?_range hi, List.length_map, List.length_range]
    by_cases e : m = i
    · subst e; simp [hi]
    · have e' : ¬ i = m := fun z => e z.symm
      simp [e, e']
  · rw [List.getElem?_eq_none (l := List.map _ _) (by simp; omega), List.getElem?_eq_none (l := List.map _ _) (by simp; omega)]
    split
    · rename_i h; simp; omega
    · rfl
theorem ix_of {n m : Nat} {i : Int} (e : i = m) (h : m < n) : ixN n i = some m := by
  subst e
  unfold ixN
  rw [if_pos (by omega), if_pos (by omega), Int.toNat_natCast]
/-! the dict of last places -/
theorem getK_put {es : List (Key × D)} {k k' : Key} {d : D} : getK (putKD es k d) k' = if k = k' then some d else getK es k' := by
  unfold putKD
  by_cases h : (es.any fun kv => decide (kv.1 = k)) = true
  · rw [if_pos h]
    unfold getK
    induction es with
    | nil => simp at h
    | cons kv es ih =>
      rw [List.map_cons, List.find?_cons, List.find?_cons]
      by_cases h1 : kv.1 = k
      · by_cases h2 : k = k'
        · simp [h1, h2]
        · rw [if_pos h1]
          have h3 : ¬ kv.1 = k' := by rw [h1]; exact h2
          simp only [h3, decide_false]
          by_cases h4 : (es.any fun kv => decide (kv.1 = k)) = true
          · have := ih h4; rw [if_neg h2] at this ⊢; exact this
          · rw [if_neg h2]
            have e : es.map (fun kv => if kv.1 = k then (kv.1, d) else kv) = es := by
              conv => rhs; rw [← List.map_id es]
              apply List.map_congr_left
              intro q hq
              rw [if_neg]
              · rfl
              · intro z
                exact h4 (List.any_eq_true.mpr ⟨q, hq, by simpa using z⟩)
            rw [e]
      · rw [if_neg h1]
        by_cases h3 : kv.1 = k'
        · have h2 : ¬ k = k' := fun z => h1 (h3.trans z.symm)
          simp [h3, h2]
        · simp only [h3, decide_false]
          exact ih (by simpa [h1] using h)
  · rw [if_neg h]
    unfold getK
    rw [List.find?_append]
    by_cases h2 : k = k'
    · have : es.find? (fun kv => decide (kv.1 = k')) = none := by
        rw [List.find?_eq_none]
        intro q hq z
        exact h (List.any_eq_true.mpr ⟨q, hq, by rw [h2]; exact z⟩)
      rw [this, if_pos h2]
      simp [h2]
    · rw [if_neg h2]
      cases hf : es.find? (fun kv => decide (kv.1 = k')) with
      | some q => rfl
      | none => simp [h2]
theorem put_len {es : List (Key × D)} {k : Key} {d : D} : (putKD es k d).length ≤ es.length + 1 := by
  unfold putKD
  split
  · rw [List.length_map]; omega
  · rw [List.length_append]; simp
def LastOk (w : List Nat) (s j : Nat) (es : List (Key × D)) : Prop := es.length ≤ j ∧ ∀ v : Int, ∃ g : Nat, (getK es (.inl v)).getD (.int (-1)) = .int ((g : Int) - 1) ∧ Mx (fun p => p < j ∧ win w s p = v) g
theorem LastOk.nil (w : List Nat) (s : Nat) : LastOk w s 0 [] := ⟨Nat.le_refl _, fun v => ⟨0, rfl, .inl rfl, fun p h => by omega⟩⟩
theorem LastOk.put {w : List Nat} {s j : Nat} {es : List (Key × D)} (h : LastOk w s j es) : LastOk w s (j + 1) (putKD es (.inl (win w s j)) (.int (j : Nat))) := by
  refine ⟨Nat.le_trans put_len (by have := h.1; omega), fun v => ?_⟩
  rw [getK_put]
  by_cases e : win w s j = v
  · subst e
    refine ⟨j + 1, ?_, .inr ⟨j, rfl, by omega, rfl⟩, fun p hp => hp.1⟩
    rw [if_pos rfl]
    show D.int (j : Nat) = _
    congr 1; omega
  · obtain ⟨g, g1, g2⟩ := h.2 v
    refine ⟨g, ?_, g2.iff fun p => ⟨fun ⟨q1, q2⟩ => ⟨by omega, q2⟩, fun ⟨q1, q2⟩ => ⟨?_, q2⟩⟩⟩
    · rw [if_neg (fun z => e (Sum.inl.inj z))]; exact g1
    · by_cases z : p = j
      · subst z; exact absurd q2 e
      · omega
end EK

set_option Elab.async false
set_option linter.all false
set_option maxRecDepth 100000
set_option maxHeartbeats 4000000
namespace EK
open PySem L2 PySem.Spec PyProof.Rows
def lBg2 : List CS := [.set (.one 7) (.bin .Sub (.idx (.var 3) (.bin .Add (.var 6) (.var 1))) (.idx (.var 3) (.var 6))),
  .set (.one 8) (.bin .Add (.blt .max [.dget (.var 5) (.bin .Sub (.var 7) (.con (.int 2))) (.neg (.con (.int 1))), .dget (.var 5) (.bin .Add (.var 7) (.con (.int 2))) (.neg (.con (.int 1)))]) (.con (.int 1))),
  .putL 4 (.bin .Add (.var 6) (.var 1)) (.blt .max [.idx (.var 4) (.bin .Add (.var 6) (.var 1)), .var 8]),
  .putD 5 (.var 7) (.var 6)]
def lBg1 : List CS := [.own 5 (.dnew),
  .loop (.one 6) .rng [.bin .Add (.bin .Sub (.blt .len [.var 0]) (.var 1)) (.con (.int 1))] lBg2,
  .frz 5]
def lBg3 : List CS := [.putL 4 (.var 2) (.blt .max [.idx (.var 4) (.var 2), .idx (.var 4) (.bin .Sub (.var 2) (.con (.int 1)))])]
def bBegins : List CS := [.par [3, 4] [.inl (.call "heights_of" [.var 0]), .inr (.rep [.con (.int 0)] (.bin .Add (.blt .len [.var 0]) (.con (.int 1))))],
  .loop (.one 1) .rng [.con (.int 2), .blt .len [.var 0]] lBg1,
  .loop (.one 2) .rng [.con (.int 1), .blt .len [.var 4]] lBg3,
  .frz 4,
  .ret (.var 4)]
theorem max_two {i j : Int} : maxD [.int i, .int j] = some (.int (if j > i then j else i)) := rfl
theorem max_nat {i j : Nat} : (if (j : Int) > (i : Int) then (j : Int) else (i : Int)) = ((max i j : Nat) : Int) := by
  by_cases h : (j : Int) > (i : Int)
  · rw [if_pos h, Nat.max_eq_right (by omega)]
  · rw [if_neg h, Nat.max_eq_left (by omega)]
@[simp] theorem isDic_dic {es : List (Key × D)} : isDic (.dic es) = true := rfl
theorem dget_int {es : List (Key × D)} {v : Int} {d : D} : dgetD (.dic es) (.int v) d = some ((getK es (.inl v)).getD d) := rfl
@[simp] theorem key_int {v : Int} : keyD (.int v) = some (.inl v) := rfl
def hD (w : List Nat) : D := .lst ((hL w w.length).map .int)
section
variable {Φ Φf : Str → Option Fsem} {G : Str → Option D} {fuel : Nat}
theorem bg_body2 {w : List Nat} {S : Sto} {n0 s j : Nat} {f : Nat → Nat} {es : List (Key × D)} {x y z : Option D} (hw : w.length ≤ 400) (hj : j + s ≤ w.length) (hl : LastOk w s j es) :
    ∃ g1 g2 : Nat, Mx (fun p => p < j ∧ win w s p = win w s j - 2) g1 ∧ Mx (fun p => p < j ∧ win w s p = win w s j + 2) g2 ∧ ∃ y' z' es', LastOk w s (j + 1) es' ∧
    exSs Φ Φf G fuel n0 lBg2 [some (.str w), some (.int s), x, some (hD w), some (.loc S.length), some (.loc (S.length + 1)), some (.int j), y, z] (S ++ [.lst (fL w.length f), .dic es]) =
      .next [some (.str w), some (.int s), x, some (hD w), some (.loc S.length), some (.loc (S.length + 1)), some (.int j), y', z'] (S ++ [.lst (fL w.length (upF f (j + s) (max (f (j + s)) (max g1 g2)))), .dic es']) := by
  have hz : szL = 16777216 := rfl
  obtain ⟨g1, a1, a2⟩ := hl.2 (win w s j - 2)
  obtain ⟨g2, b1, b2⟩ := hl.2 (win w s j + 2)
  obtain ⟨m, hm⟩ : ∃ m, m = max g1 g2 := ⟨_, rfl⟩
  obtain ⟨M, hM⟩ : ∃ M, M = max (f (j + s)) m := ⟨_, rfl⟩
  refine ⟨g1, g2, a2, b2, some (.int (win w s j)), some (.int (m : Int)), _, hl.put, ?_⟩
  rw [← hm, ← hM]
  have i1 : idxD (hD w) (.int ((j : Int) + s)) = some (.int (cnt w (j + s))) := idx_nat (hL_get (w := w) (n := w.length) (i := j + s) hj) (by omega)
  have i2 : idxD (hD w) (.int (j : Int)) = some (.int (cnt w j)) := idx_nat (hL_get (w := w) (n := w.length) (i := j) (by omega)) rfl
  have e0 : cnt w (j + s) - cnt w j = win w s j := rfl
  have v0 : ∀ S, vw S (hD w) = hD w := fun _ => rfl
  have m1 : maxD [.int ((g1 : Int) - 1), .int ((g2 : Int) - 1)] = some (.int ((m : Int) - 1)) := by
    rw [max_two, hm]
    congr 2
    have := max_nat (i := g1) (j := g2)
    split <;> split at this <;> omega
  have i3 : idxD (.lst (fL w.length f)) (.int ((j : Int) + s)) = some (.int (f (j + s) : Nat)) := idx_nat (fL_get hj) (by omega)
  have i4 := ix_of (n := (fL w.length f).length) (m := j + s) (i := (j : Int) + s) (by omega) (by rw [fL_len]; omega)
  have m2 : maxD [.int ((f (j + s) : Nat) : Int), .int (m : Int)] = some (.int (M : Int)) := by
    rw [max_two, max_nat, hM]
  have hes : es.length < szL := by have := hl.1; omega
  have d1 : dgetD (.dic es) (.int (win w s j - 2)) (.int (-1)) = some (.int ((g1 : Int) - 1)) := by rw [dget_int, a1]
  have d2 : dgetD (.dic es) (.int (win w s j + 2)) (.int (-1)) = some (.int ((g2 : Int) - 1)) := by rw [dget_int, b1]
  simp [lBg2, i1, i2, v0, e0, d1, d2, m1, i3, i4, m2, hes, fL_set]
def Two (w : List Nat) (s p q : Nat) : Prop := win w s q - win w s p = 2 ∨ win w s p - win w s q = 2
def Vs (w : List Nat) (s j p e : Nat) : Prop := ∃ s' q, 2 ≤ s' ∧ p < q ∧ q + s' = e ∧ (s' < s ∨ (s' = s ∧ q < j)) ∧ Two w s' p q
def FInv (w : List Nat) (s j : Nat) (f : Nat → Nat) : Prop := ∀ e, e ≤ w.length → Mx (fun p => Vs w s j p e) (f e)
theorem FInv.step {w : List Nat} {s j g1 g2 : Nat} {f : Nat → Nat} (h : FInv w s j f) (hs : 2 ≤ s) (hj : j + s ≤ w.length) (h1 : Mx (fun p => p < j ∧ win w s p = win w s j - 2) g1) (h2 : Mx (fun p => p < j ∧ win w s p = win w s j + 2) g2) :
    FInv w s (j + 1) (upF f (j + s) (max (f (j + s)) (max g1 g2))) := by
  intro e he
  unfold upF
  by_cases c : e = j + s
  · subst c
    rw [if_pos rfl]
    refine ((h _ he).or (h1.or h2)).iff fun p => ⟨?_, ?_⟩
    · rintro (⟨s', q, a1, a2, a3, a4, a5⟩ | ⟨a1, a2⟩ | ⟨a1, a2⟩)
      · exact ⟨s', q, a1, a2, a3, by omega, a5⟩
      · exact ⟨s, j, hs, a1, rfl, by omega, .inl (by omega)⟩
      · exact ⟨s, j, hs, a1, rfl, by omega, .inr (by omega)⟩
    · rintro ⟨s', q, a1, a2, a3, a4, a5⟩
      by_cases z : s' = s
      · subst z
        have : q = j := by omega
        subst this
        right
        rcases a5 with a5 | a5
        · exact .inl ⟨a2, by omega⟩
        · exact .inr ⟨a2, by omega⟩
      · exact .inl ⟨s', q, a1, a2, a3, by omega, a5⟩
  · rw [if_neg c]
    refine (h e he).iff fun p => ⟨?_, ?_⟩
    · rintro ⟨s', q, a1, a2, a3, a4, a5⟩
      exact ⟨s', q, a1, a2, a3, by omega, a5⟩
    · rintro ⟨s', q, a1, a2, a3, a4, a5⟩
      refine ⟨s', q, a1, a2, a3, ?_, a5⟩
      by_cases z : s' = s
      · subst z; omega
      · omega
theorem FInv.up {w : List Nat} {s : Nat} {f : Nat → Nat} (h : FInv w s (w.length - s + 1) f) : FInv w (s + 1) 0 f := by
  intro e he
  refine (h e he).iff fun p => ⟨?_, ?_⟩
  · rintro ⟨s', q, a1, a2, a3, a4, a5⟩
    exact ⟨s', q, a1, a2, a3, by omega, a5⟩
  · rintro ⟨s', q, a1, a2, a3, a4, a5⟩
    exact ⟨s', q, a1, a2, a3, by omega, a5⟩
theorem thaw1_ne {k j : Nat} {d : D} (h : j ≠ k) : thaw1 k d (some (.loc j)) = some (.loc j) := by
  show (if j = k then some d else some (.loc j)) = _
  rw [if_neg h]
theorem bg_inner {w : List Nat} {S : Sto} {s : Nat} {f : Nat → Nat} {y2 y5 y6 y7 y8 : Option D} (hw : w.length ≤ 400) (hs : 2 ≤ s) (hsn : s < w.length) (hf : FInv w s 0 f) :
    ∃ f' x2 x5 x6 x7 x8, FInv w (s + 1) 0 f' ∧ exSs Φ Φf G fuel S.length lBg1 [some (.str w), some (.int s), y2, some (hD w), some (.loc S.length), y5, y6, y7, y8] (S ++ [.lst (fL w.length f)]) =
      .next [some (.str w), some (.int s), x2, some (hD w), some (.loc S.length), x5, x6, x7, x8] (S ++ [.lst (fL w.length f')]) := by
  have key := loop0 (body := exSs Φ Φf G fuel S.length lBg2) (tg := .one 6) (items := rngL 0 (w.length - s + 1))
    (fun i Γ S' => ∃ f' es x6 x7 x8, FInv w s i f' ∧ LastOk w s i es ∧ Γ = [some (.str w), some (.int s), y2, some (hD w), some (.loc S.length), some (.loc (S.length + 1)), x6, x7, x8] ∧ S' = S ++ [.lst (fL w.length f'), .dic es])
    (fun r => ∃ f' es x6 x7 x8, FInv w (s + 1) 0 f' ∧ r = .next [some (.str w), some (.int s), y2, some (hD w), some (.loc S.length), some (.loc (S.length + 1)), x6, x7, x8] (S ++ [.lst (fL w.length f'), .dic es]))
    (Γ := [some (.str w), some (.int s), y2, some (hD w), some (.loc S.length), some (.loc (S.length + 1)), y6, y7, y8]) (S := S ++ [.lst (fL w.length f), .dic []])
    ⟨f, [], _, _, _, hf, LastOk.nil w s, rfl, rfl⟩ (fun i x Γ S' hi hI => ?_) (fun Γ S' ⟨f', es, x6, x7, x8, q1, q2, q3, q4⟩ => ⟨f', es, x6, x7, x8, FInv.up (by rw [rng_len] at q1; exact q1), by rw [q3, q4]⟩)
  · obtain ⟨f', es, x6, x7, x8, q1, q2⟩ := key
    have hle : w.length ≤ szL := by show _ ≤ 16777216; omega
    have hin : in62 ((w.length : Int) - s + 1) = true := in62_of (by omega) (by omega)
    have ht : ((w.length : Int) - s + 1).toNat = w.length - s + 1 := by omega
    have t1 : thaw1 (S.length + 1) (.dic es) (some (hD w)) = some (hD w) := rfl
    have t2 : thaw1 (S.length + 1) (.dic es) (some (.loc S.length)) = some (.loc S.length) := thaw1_ne (by omega)
    refine ⟨f', thaw1 (S.length + 1) (.dic es) y2, some (.dic es), thaw1 (S.length + 1) (.dic es) x6, thaw1 (S.length + 1) (.dic es) x7, thaw1 (S.length + 1) (.dic es) x8, q1, ?_⟩
    simp [lBg1, lenS hle, it_rng1 hin ht, q2, t1, t2]
  · obtain ⟨f', es, x6, x7, x8, q1, q2, rfl, rfl⟩ := hI
    obtain ⟨hi1, hi2⟩ := rngAt hi
    subst hi2
    rw [Int.zero_add]
    obtain ⟨g1, g2, a1, a2, y', z', es', a3, a4⟩ := bg_body2 (Φ := Φ) (Φf := Φf) (G := G) (fuel := fuel) (S := S) (n0 := S.length) (x := y2) (y := x7) (z := x8) (f := f') hw (by omega) q2
    exact ⟨_, rfl, .inl ⟨_, _, a4, _, es', _, _, _, q1.step hs (by omega) a1 a2, a3, rfl, rfl⟩⟩
/-- all pairs that end at e -/
def Vq (w : List Nat) (p e : Nat) : Prop := ∃ s' q, 2 ≤ s' ∧ p < q ∧ q + s' = e ∧ Two w s' p q
theorem FInv.all {w : List Nat} {f : Nat → Nat} (h : FInv w (2 + (w.length - 2)) 0 f) : ∀ e, e ≤ w.length → Mx (fun p => Vq w p e) (f e) := by
  intro e he
  refine (h e he).iff fun p => ⟨?_, ?_⟩
  · rintro ⟨s', q, a1, a2, a3, a4, a5⟩
    exact ⟨s', q, a1, a2, a3, a5⟩
  · rintro ⟨s', q, a1, a2, a3, a5⟩
    exact ⟨s', q, a1, a2, a3, by omega, a5⟩
theorem vb_zero {w : List Nat} {p : Nat} : Vq w p 0 ↔ Vb w p 0 := by
  constructor
  · rintro ⟨s', q, a1, a2, a3, a5⟩; omega
  · rintro ⟨s', q, a1, a2, a3, a5⟩; omega
theorem vb_succ {w : List Nat} {p e : Nat} : (Vq w p (e + 1) ∨ Vb w p e) ↔ Vb w p (e + 1) := by
  constructor
  · rintro (⟨s', q, a1, a2, a3, a5⟩ | ⟨s', q, a1, a2, a3, a5⟩)
    · exact ⟨s', q, a1, a2, by omega, a5⟩
    · exact ⟨s', q, a1, a2, by omega, a5⟩
  · rintro ⟨s', q, a1, a2, a3, a5⟩
    by_cases z : q + s' = e + 1
    · exact .inl ⟨s', q, a1, a2, z, a5⟩
    · exact .inr ⟨s', q, a1, a2, by omega, a5⟩
theorem bg_body3 {w : List Nat} {S : Sto} {n0 e : Nat} {f : Nat → Nat} {x1 y5 y6 y7 y8 : Option D} (he : e + 1 ≤ w.length) :
    exSs Φ Φf G fuel n0 lBg3 [some (.str w), x1, some (.int (e + 1 : Nat)), some (hD w), some (.loc S.length), y5, y6, y7, y8] (S ++ [.lst (fL w.length f)]) =
      .next [some (.str w), x1, some (.int (e + 1 : Nat)), some (hD w), some (.loc S.length), y5, y6, y7, y8] (S ++ [.lst (fL w.length (upF f (e + 1) (max (f (e + 1)) (f e))))]) := by
  obtain ⟨M, hM⟩ : ∃ M, M = max (f (e + 1)) (f e) := ⟨_, rfl⟩
  have i1 : idxD (.lst (fL w.length f)) (.int ((e : Int) + 1)) = some (.int (f (e + 1) : Nat)) := idx_nat (fL_get he) (by omega)
  have i2 : idxD (.lst (fL w.length f)) (.int (e : Int)) = some (.int (f e : Nat)) := idx_nat (fL_get (by omega)) rfl
  have i4 := ix_of (n := (fL w.length f).length) (m := e + 1) (i := (e : Int) + 1) (by omega) (by rw [fL_len]; omega)
  have m2 : maxD [.int ((f (e + 1) : Nat) : Int), .int ((f e : Nat) : Int)] = some (.int (M : Int)) := by
    rw [max_two, max_nat, hM]
  have e3 : (e : Int) + 1 - 1 = e := by omega
  rw [← hM]
  simp [lBg3, i1, i2, i4, m2, fL_set, e3]
def BgOk (F : Fsem) : Prop := ∀ (w : List Nat) (S : Sto), Wd w → w.length ≤ 400 → ∃ f : Nat → Nat, (∀ e, e ≤ w.length → Mx (fun p => Vb w p e) (f e)) ∧ F [.str w] S = .ok (.lst (fL w.length f)) S
theorem bgOk {Fh : Fsem} (eh : Φ "heights_of" = some Fh) (hh : HtOk Fh) : BgOk (fsem Φ Φf G fuel 1 9 bBegins) := by
  intro w S hw h4
  have hz : szL = 16777216 := rfl
  have hsz := lt_sz h4
  have hle : w.length ≤ szL := by omega
  have k1 := loop0 (body := exSs Φ Φf G fuel S.length lBg1) (tg := .one 1) (items := rngL 2 (w.length - 2))
    (fun i Γ S' => ∃ f x1 x2 x5 x6 x7 x8, FInv w (2 + i) 0 f ∧ Γ = [some (.str w), x1, x2, some (hD w), some (.loc S.length), x5, x6, x7, x8] ∧ S' = S ++ [.lst (fL w.length f)])
    (fun r => ∃ f x1 x2 x5 x6 x7 x8, FInv w (2 + (w.length - 2)) 0 f ∧ r = .next [some (.str w), x1, x2, some (hD w), some (.loc S.length), x5, x6, x7, x8] (S ++ [.lst (fL w.length f)]))
    (Γ := [some (.str w), none, none, some (hD w), some (.loc S.length), none, none, none, none]) (S := S ++ [.lst (fL w.length fun _ => 0)])
    ⟨fun _ => 0, _, _, _, _, _, _, (fun e he => ⟨.inl rfl, fun p ⟨s', q, a1, a2, a3, a4, a5⟩ => by omega⟩), rfl, rfl⟩ (fun i x Γ S' hi hI => ?_) (fun Γ S' ⟨f, x1, x2, x5, x6, x7, x8, q1, q2, q3⟩ => ⟨f, x1, x2, x5, x6, x7, x8, by rw [rng_len] at q1; exact q1, by rw [q2, q3]⟩)
  · obtain ⟨f, x1, x2, x5, x6, x7, x8, q1, q2⟩ := k1
    have q1 := q1.all
    have k2 := loop0 (body := exSs Φ Φf G fuel S.length lBg3) (tg := .one 2) (items := rngL 1 w.length)
      (fun i Γ S' => ∃ f x2, (∀ e, e ≤ w.length → (e ≤ i → Mx (fun p => Vb w p e) (f e)) ∧ (i < e → Mx (fun p => Vq w p e) (f e))) ∧ Γ = [some (.str w), x1, x2, some (hD w), some (.loc S.length), x5, x6, x7, x8] ∧ S' = S ++ [.lst (fL w.length f)])
      (fun r => ∃ f x2, (∀ e, e ≤ w.length → Mx (fun p => Vb w p e) (f e)) ∧ r = .next [some (.str w), x1, x2, some (hD w), some (.loc S.length), x5, x6, x7, x8] (S ++ [.lst (fL w.length f)]))
      (Γ := [some (.str w), x1, x2, some (hD w), some (.loc S.length), x5, x6, x7, x8]) (S := S ++ [.lst (fL w.length f)])
      ⟨f, x2, (fun e he => ⟨fun z => by obtain rfl : e = 0 := by omega
                                        exact (q1 0 he).iff fun p => vb_zero, fun _ => q1 e he⟩), rfl, rfl⟩ (fun i x Γ S' hi hI => ?_) (fun Γ S' ⟨f, x2, q1, q2, q3⟩ => ⟨f, x2, fun e he => (q1 e he).1 (by rw [rng_len]; exact he), by rw [q2, q3]⟩)
    · obtain ⟨f2, x2', q3, q4⟩ := k2
      refine ⟨f2, q3, ?_⟩
      have hh := hh w S hsz
      have hh : Fh [.str w] S = .ok (hD w) S := hh
      have i1 : in62 ((w.length : Int) + 1) = true := in62_of (by omega) (by omega)
      have i2 : ((w.length : Int) + 1).toNat = w.length + 1 := by omega
      have i3 : w.length + 1 ≤ szL := by omega
      have i3' : w.length < szL := by omega
      have hrep : (List.replicate (w.length + 1) [D.int 0]).flatten = fL w.length fun _ => 0 := by
        rw [List.flatten_replicate_singleton]
        unfold fL
        rw [List.map_const', List.length_range]; rfl
      have j1 := it_rng2 (a := 2) (b := (w.length : Int)) (m := w.length - 2) rfl (in62_of (by omega) (by omega)) (by omega)
      have j2 := it_rng2 (a := 1) (b := (w.length : Int) + 1) (m := w.length) rfl i1 (by omega)
      have h1s : 1 ≤ szL := by omega
      have hrep2 : List.replicate (w.length + 1) (D.int 0) = fL w.length fun _ => 0 := by
        unfold fL
        rw [List.map_const', List.length_range]; rfl
      simp [bBegins, eh, hh, lenS hle, i1, i2, i3, i3', h1s, hrep, hrep2, j1, q2, fL_len, j2, q4]
    · obtain ⟨f, y2, q3, rfl, rfl⟩ := hI
      obtain ⟨hi1, hi2⟩ := rngAt hi
      subst hi2
      have e : D.int (1 + (i : Int)) = D.int ((i + 1 : Nat) : Int) := by congr 1; omega
      rw [e]
      refine ⟨_, rfl, .inl ⟨_, _, bg_body3 (by omega), _, _, fun e he => ⟨fun z => ?_, fun z => ?_⟩, rfl, rfl⟩⟩
      · unfold upF
        by_cases c : e = i + 1
        · subst c
          rw [if_pos rfl]
          exact (((q3 (i + 1) he).2 (by omega)).or ((q3 i (by omega)).1 (by omega))).iff fun p => vb_succ
        · rw [if_neg c]
          exact (q3 e he).1 (by omega)
      · unfold upF
        rw [if_neg (by omega)]
        exact (q3 e he).2 (by omega)
  · obtain ⟨f, x1, x2, x5, x6, x7, x8, q1, rfl, rfl⟩ := hI
    obtain ⟨hi1, hi2⟩ := rngAt hi
    subst hi2
    have e : D.int (2 + (i : Int)) = D.int ((2 + i : Nat) : Int) := by congr 1
    rw [e]
    obtain ⟨f', z2, z5, z6, z7, z8, q3, q4⟩ := bg_inner (Φ := Φ) (Φf := Φf) (G := G) (fuel := fuel) (S := S) (y2 := x2) (y5 := x5) (y6 := x6) (y7 := x7) (y8 := x8) h4 (by omega) (by omega) q1
    exact ⟨_, rfl, .inl ⟨_, _, q4, f', _, _, _, _, _, _, q3, rfl, rfl⟩⟩
end
end EK

set_option Elab.async false
set_option linter.all false
set_option maxRecDepth 100000
set_option maxHeartbeats 4000000
namespace EK
open PySem L2 PySem.Spec PyProof.Rows
def pr (p : Int × Int) : D := .tup [.int p.1, .int p.2]
def lt2 (p q : Int × Int) : Prop := p.1 < q.1 ∨ (p.1 = q.1 ∧ p.2 < q.2)
instance (p q : Int × Int) : Decidable (lt2 p q) := by unfold lt2; infer_instance
theorem dlt_pr (p q : Int × Int) : dlt (pr p) (pr q) = decide (lt2 p q) := by
  obtain ⟨a, b⟩ := p
  obtain ⟨c, d⟩ := q
  show PyProof.Rows.lexLt PyProof.Rows.itemOrd [.inl 1, .inl a, .inl 1, .inl b, .inl 0] [.inl 1, .inl c, .inl 1, .inl d, .inl 0] = _
  rw [PyProof.Rows.lex_self]
  by_cases h : a = c
  · subst h
    rw [PyProof.Rows.lex_self, PyProof.Rows.lex_self]
    by_cases h2 : b = d
    · subst h2
      rw [PyProof.Rows.lex_self, PyProof.Rows.lex_self]
      rw [eq_comm, decide_eq_false (by rintro (z | ⟨_, z⟩) <;> dsimp only at z <;> omega)]
      rfl
    · rw [PyProof.Rows.lex_diff (fun z => h2 (Sum.inl.inj z))]
      show decide (b < d) = _
      rw [Bool.eq_iff_iff, decide_eq_true_iff, decide_eq_true_iff]
      unfold lt2; dsimp only; omega
  · rw [PyProof.Rows.lex_diff (fun z => h (Sum.inl.inj z))]
    show decide (a < c) = _
    rw [Bool.eq_iff_iff, decide_eq_true_iff, decide_eq_true_iff]
    unfold lt2; dsimp only; omega
def best2 (ps : List (Int × Int)) (p : Int × Int) : Int × Int := ps.foldl (fun a y => if lt2 a y then y else a) p
theorem best_fold : ∀ (ps : List (Int × Int)) (p : Int × Int), (ps.map pr).foldl (fun a y => if dlt a y then y else a) (pr p) = pr (best2 ps p)
  | [], p => rfl
  | q :: ps, p => by
    show (ps.map pr).foldl (fun a y => if dlt a y then y else a) (if dlt (pr p) (pr q) then pr q else pr p) = pr (best2 ps (if lt2 p q then q else p))
    rw [dlt_pr]
    by_cases h : lt2 p q
    · rw [decide_eq_true h, if_pos rfl, if_pos h]; exact best_fold ps q
    · rw [decide_eq_false h, if_neg (by decide), if_neg h]; exact best_fold ps p
theorem best_ok : ∀ (ps : List (Int × Int)) (p : Int × Int), (best2 ps p = p ∨ best2 ps p ∈ ps) ∧ ¬ lt2 (best2 ps p) p ∧ ∀ y ∈ ps, ¬ lt2 (best2 ps p) y
  | [], p => ⟨.inl rfl, by show ¬ lt2 p p; unfold lt2; omega, fun y hy => by cases hy⟩
  | q :: ps, p => by
    have ih := best_ok ps (if lt2 p q then q else p)
    show (best2 ps (if lt2 p q then q else p) = p ∨ best2 ps (if lt2 p q then q else p) ∈ q :: ps) ∧ ¬ lt2 (best2 ps (if lt2 p q then q else p)) p ∧ ∀ y ∈ q :: ps, ¬ lt2 (best2 ps (if lt2 p q then q else p)) y
    by_cases h : lt2 p q
    · rw [if_pos h] at ih ⊢
      obtain ⟨i1, i2, i3⟩ := ih
      refine ⟨.inr ?_, ?_, fun y hy => ?_⟩
      · rcases i1 with i1 | i1
        · rw [i1]; exact List.mem_cons_self ..
        · exact List.mem_cons_of_mem _ i1
      · unfold lt2 at *; omega
      · rcases List.mem_cons.mp hy with rfl | hy
        · exact i2
        · exact i3 y hy
    · rw [if_neg h] at ih ⊢
      obtain ⟨i1, i2, i3⟩ := ih
      refine ⟨?_, i2, fun y hy => ?_⟩
      · rcases i1 with i1 | i1
        · exact .inl i1
        · exact .inr (List.mem_cons_of_mem _ i1)
      · rcases List.mem_cons.mp hy with rfl | hy
        · unfold lt2 at *; omega
        · exact i3 y hy
def pp (p : Int × Int) : PyData := .tuple [.int p.1, .int p.2]
theorem pyA_pr : ∀ ps : List (Int × Int), pyA (ps.map pr) = some (ps.map pp)
  | [] => rfl
  | p :: ps => by
    rw [List.map_cons, pyA, pyA_pr ps]; rfl
theorem lay_pp : ∀ ps : List (Int × Int), PyData.canLayAll0 (ps.map pp) = true
  | [] => rfl
  | p :: ps => by
    rw [List.map_cons, PyData.canLayAll0, lay_pp ps]; rfl
theorem dep_pp : ∀ ps : List (Int × Int), PyData.depthAll (ps.map pp) ≤ 1
  | [] => Nat.zero_le _
  | p :: ps => by
    rw [List.map_cons, PyData.depthAll]
    have := dep_pp ps
    have e : PyData.depth (pp p) = 1 := rfl
    rw [e]; omega
theorem alike_pp (ps : List (Int × Int)) : alikeB (ps.map pp) = true := by
  unfold alikeB
  rw [List.all_eq_true]
  intro x hx
  obtain ⟨p, _, rfl⟩ := List.mem_map.mp hx
  rw [Bool.and_eq_true]
  refine ⟨rfl, ?_⟩
  rw [List.all_eq_true]
  intro y hy
  obtain ⟨q, _, rfl⟩ := List.mem_map.mp hy
  rfl
theorem max_pairs (p : Int × Int) (ps : List (Int × Int)) : maxD [.lst ((p :: ps).map pr)] = some (pr (best2 ps p)) := by
  show bestD dlt (pr p :: ps.map pr) = _
  show (match pyA (pr p :: ps.map pr) with | some qs => if alikeB qs = true ∧ PyData.depthAll qs ≤ 60 ∧ PyData.canLayAll0 qs = true then some ((ps.map pr).foldl (fun a y => if dlt a y then y else a) (pr p)) else none | none => none) = _
  have e := pyA_pr (p :: ps)
  rw [List.map_cons] at e
  rw [e]
  dsimp only
  rw [if_pos ⟨alike_pp (p :: ps), by have := dep_pp (p :: ps); omega, lay_pp (p :: ps)⟩, best_fold]
theorem enum_range (f : Nat → D) : ∀ (n k : Nat), enumFrom k ((List.range n).map fun i => f (i + k)) = (List.range n).map fun i => D.tup [.int ((i + k : Nat) : Int), f (i + k)]
  | 0, _ => rfl
  | n + 1, k => by
    rw [List.range_succ_eq_map, List.map_cons, List.map_cons, List.map_map, List.map_map]
    show D.tup [.int (k : Int), f (0 + k)] :: enumFrom (k + 1) _ = _
    have ih := enum_range f n (k + 1)
    have e : (List.range n).map ((fun i => f (i + k)) ∘ Nat.succ) = (List.range n).map fun i => f (i + (k + 1)) := by
      apply List.map_congr_left; intro i _; show f (i + 1 + k) = _; congr 1; omega
    rw [e, ih]
    congr 1
    · rw [Nat.zero_add]
    · apply List.map_congr_left
      intro i _
      show _ = D.tup [.int ((i + 1 + k : Nat) : Int), f (i + 1 + k)]
      rw [show i + (k + 1) = i + 1 + k by omega]
def eLongE : CE := .tup [.bin .Sub (.var 4) (.var 5), .bin .Sub (.con (.int 0)) (.var 5)]
def bLongE : List CS := [.set (.one 1) (.call "begins_by_end" [.call "need_word" [.var 0]]),
  .set (.many [2, 3]) (.blt .max [.lc eLongE (.many [4, 5]) .enm [.var 1] (.con (.bl true)) [("end", 4), ("first", 5)]]),
  .ret (.sl (.var 0) (.bin .Sub (.con (.int 0)) (.var 3)) (.bin .Sub (.var 2) (.var 3)))]
section
variable {Φ Φf : Str → Option Fsem} {G : Str → Option D} {fuel : Nat}
theorem leOk {Fb Fn : Fsem} (eb : Φ "begins_by_end" = some Fb) (hb : BgOk Fb) (en : Φ "need_word" = some Fn) (hn : NwOk Fn) : LgOk (fsem Φ Φf G fuel 1 6 bLongE) := by
  intro w S hw h4
  have hz : szL = 16777216 := rfl
  obtain ⟨f, hf, e1⟩ := hb w S hw h4
  have e2 := hn w S hw h4
  let P : Nat → Int × Int := fun e => ((e : Int) - (f e : Nat), -((f e : Nat) : Int))
  have hlist : (List.range (w.length + 1)).map P = P 0 :: (List.range w.length).map fun e => P (e + 1) := by
    rw [List.range_succ_eq_map, List.map_cons, List.map_map]; rfl
  obtain ⟨b1, b2, b3⟩ := best_ok ((List.range w.length).map fun e => P (e + 1)) (P 0)
  generalize hB : best2 ((List.range w.length).map fun e => P (e + 1)) (P 0) = B at b1 b2 b3
  have hm := max_pairs (P 0) ((List.range w.length).map fun e => P (e + 1))
  rw [← hlist, hB] at hm
  -- the best end
  obtain ⟨e, he, hPe⟩ : ∃ e, e ≤ w.length ∧ B = P e := by
    rcases b1 with q | q
    · exact ⟨0, by omega, q⟩
    · obtain ⟨i, i1, i2⟩ := List.mem_map.mp q
      exact ⟨i + 1, by have := List.mem_range.mp i1; omega, i2.symm⟩
  have hall : ∀ e', e' ≤ w.length → ¬ lt2 (P e) (P e') := by
    intro e' he'
    rw [← hPe]
    cases e' with
    | zero => exact b2
    | succ i => exact b3 _ (List.mem_map.mpr ⟨i, List.mem_range.mpr (by omega), rfl⟩)
  have hfe : ∀ e, e ≤ w.length → Mx (fun p => Vb w p e) (f e) ∧ f e ≤ e := fun e he => ⟨hf e he, vb_lt (hf e he)⟩
  refine ⟨_, lgst_of hfe he fun e' he' => ?_, ?_⟩
  · have h1 := hall e' he'
    have h2 := (hfe e' he').2
    have h3 := (hfe e he).2
    unfold lt2 at h1
    have a1 : (P e).1 = (e : Int) - (f e : Nat) := rfl
    have a2 : (P e).2 = -((f e : Nat) : Int) := rfl
    have a3 : (P e').1 = (e' : Int) - (f e' : Nat) := rfl
    have a4 : (P e').2 = -((f e' : Nat) : Int) := rfl
    rw [a1, a2, a3, a4] at h1
    omega
  · have hen : enumFrom 0 (fL w.length f) = (List.range (w.length + 1)).map fun i : Nat => D.tup [.int (i : Int), .int (f i : Nat)] := by
      have := enum_range (fun i => D.int (f i : Nat)) (w.length + 1) 0
      simpa [fL] using this
    have e0 : lcLoop (fun _ S => .ok (.bl true) S) (ev Φ G eLongE) (.many [4, 5]) [some (.str w), some (.lst (fL w.length f)), none, none, none, none] ((List.range (w.length + 1)).map fun i : Nat => D.tup [.int (i : Int), .int (f i : Nat)]) [] S = .ok (.lst (((List.range (w.length + 1)).map P).map pr)) S := by
      rw [lc_at (fun i : Nat => D.tup [.int (i : Int), .int (f i : Nat)]) (fun i => pr (P i)) _ _ fun k hk => ⟨_, rfl, rfl, ?_, rfl⟩]
      · rw [List.map_map]; rfl
      · simp [eLongE, szL]
        rfl
    have hB2 : pr B = .tup [.int ((e : Int) - (f e : Nat)), .int (-((f e : Nat) : Int))] := by rw [hPe]; rfl
    rw [hB2] at hm
    have h3 := (hfe e he).2
    have hsl := sl_part (w := w) (i := ((f e : Nat) : Int)) (j := (e : Int) - (f e : Nat) - -((f e : Nat) : Int)) (b := f e) (L := e - f e) (by omega) (by omega) (by omega) (by omega)
    have hle : w.length + 1 ≤ 16777216 := by omega
    have hm2 := hm
    rw [List.map_map] at hm2
    have hsl2 := hsl
    rw [show (e : Int) - (f e : Nat) - -((f e : Nat) : Int) = e by omega] at hsl2
    simp [bLongE, eb, en, e1, e2, hen, szL, hle, e0, hm, hm2, hsl, hsl2]
end
end EK

set_option Elab.async false
set_option linter.all false
set_option maxRecDepth 100000
set_option maxHeartbeats 4000000
namespace EK
open PySem L2 PySem.Spec PyProof.Rows
/-! ### the draws begin -/
def pi (i : Int) : PyData := .int i
theorem pyA_ints : ∀ xs : List Int, pyA (xs.map D.int) = some (xs.map pi)
  | [] => rfl
  | x :: xs => by rw [List.map_cons, pyA, pyA_ints xs]; rfl
theorem lay_ints : ∀ xs : List Int, PyData.canLayAll0 (xs.map pi) = true
  | [] => rfl
  | x :: xs => by rw [List.map_cons, PyData.canLayAll0, lay_ints xs]; rfl
theorem dep_ints : ∀ xs : List Int, PyData.depthAll (xs.map pi) = 0
  | [] => rfl
  | x :: xs => by rw [List.map_cons, PyData.depthAll, dep_ints xs]; rfl
theorem ne_nil {x : Int} {xs : List Int} : cmpD .NotEq (.lst ((x :: xs).map D.int)) (.lst []) = some (.bl true) := by
  have e : eqB (.lst ((x :: xs).map D.int)) (.lst []) = some false := by
    show (match (pyA ((x :: xs).map D.int)).map PyData.list, (pyA []).map PyData.list with
      | some p, some q => if SeqAt.shaped p = true ∧ SeqAt.shaped q = true then some (PyData.eqv p q) else none
      | _, _ => none) = _
    rw [pyA_ints]
    have s1 : SeqAt.shaped (.list ((x :: xs).map pi)) = true := by
      unfold SeqAt.shaped
      rw [Bool.and_eq_true]
      refine ⟨lay_ints (x :: xs), ?_⟩
      rw [decide_eq_true_iff, PyData.depth, dep_ints]; omega
    show (if SeqAt.shaped (.list ((x :: xs).map pi)) = true ∧ SeqAt.shaped (.list []) = true then some (PyData.eqv (.list ((x :: xs).map pi)) (.list [])) else none) = _
    rw [if_pos ⟨s1, rfl⟩]
    rfl
  show (eqB _ _).map _ = _
  rw [e]; rfl
def cBegun : CE := .cmp .GtE (.var 2) (.bin .Pow (.con (.int 10)) (.con (.int 18)))
def eBegun : CE := .var 2
def bBegun : List CS := [.set (.one 1) (.lc eBegun (.one 2) .seq [.var 0] cBegun [("_law_cell", 2)]),
  .retF (.dic [.inr "cells", .inr "left", .inr "spot"] [.bin .Add (.blt .list [.var 0]) (.lst [.blt .len [.var 0]]), .ite (.cmp .NotEq (.var 1) (.lst [])) (.idx (.var 1) (.con (.int 0))) (.con (.int 0)), .con (.int 0)])]
section
variable {Φ Φf : Str → Option Fsem} {G : Str → Option D} {fuel : Nat}
theorem begun_ok (ns : List Int) (S : Sto) (hn : ns.length ≤ 1000) : ∃ l, fsemF Φ Φf G fuel 1 3 bBegun [.frz (ns.map .int)] S = .ok (.dic (dr (ns ++ [(ns.length : Int)]) l 0)) S := by
  have hz : szL = 16777216 := rfl
  let q : Int → Bool := fun i => !decide (i < 1000000000000000000)
  have e0 : lcLoop (ev Φ G cBegun) (ev Φ G eBegun) (.one 2) [some (.frz (ns.map .int)), none, none] (ns.map .int) [] S = .ok (.lst ((ns.filter q).map .int)) S := by
    rw [lc_filter (p := fun d => match d with | .int i => q i | _ => false) (f := fun d => d) fun x hx => ?_]
    · rw [List.nil_append, List.map_id', List.filter_map]; rfl
    · obtain ⟨i, _, rfl⟩ := List.mem_map.mp hx
      have hp : powD (.int 10) (.int 18) = some (.int 1000000000000000000) := rfl
      exact ⟨_, rfl, by simp [cBegun, hp, q], fun _ => ⟨by simp [eBegun], rfl⟩⟩
  have hlist : listD [.frz (ns.map D.int)] = some (.lst (ns.map D.int)) := rfl
  have hadd : addD (.lst (ns.map D.int)) (.lst [.int (ns.length : Int)]) = some (.lst ((ns ++ [(ns.length : Int)]).map D.int)) := by
    show (if (ns.map D.int).length + 1 ≤ szL then some (D.lst (ns.map D.int ++ [.int (ns.length : Int)])) else none) = _
    rw [if_pos (by rw [List.length_map]; omega), List.map_append]; rfl
  have hle : ns.length ≤ szL := by omega
  have h1s : 1 ≤ szL := by omega
  have h3s : 3 ≤ 15 := by omega
  have nd : ([.inr "cells", .inr "left", .inr "spot"] : List Key).Nodup := by decide
  cases hg : ns.filter q with
  | nil =>
    refine ⟨0, ?_⟩
    rw [hg] at e0
    have c : cmpD .NotEq (.lst []) (.lst []) = some (.bl false) := rfl
    have nab1 : ¬ (Str.ofString "cells" = Str.ofString "left") := by decide
    have nab2 : ¬ (Str.ofString "cells" = Str.ofString "spot") := by decide
    have nab3 : ¬ (Str.ofString "left" = Str.ofString "spot") := by decide
    simp only [List.map_nil] at e0
    simp [bBegun, e0, hle, h1s, hlist, c, nab1, nab2, nab3, dr]
    simp at hadd
    simp [hadd]
  | cons g gs =>
    refine ⟨g, ?_⟩
    rw [hg] at e0
    have c := ne_nil (x := g) (xs := gs)
    have i0 : idxD (.lst ((g :: gs).map D.int)) (.int 0) = some (.int g) := idx_nat (j := 0) rfl rfl
    have nab1 : ¬ (Str.ofString "cells" = Str.ofString "left") := by decide
    have nab2 : ¬ (Str.ofString "cells" = Str.ofString "spot") := by decide
    have nab3 : ¬ (Str.ofString "left" = Str.ofString "spot") := by decide
    simp only [List.map_cons] at e0 c i0
    simp [bBegun, e0, hle, h1s, hlist, c, i0, nab1, nab2, nab3, dr]
    simp at hadd
    simp [hadd]
end
end EK

set_option Elab.async false
set_option linter.all false
set_option maxRecDepth 100000
set_option maxHeartbeats 4000000
namespace EK
open PySem L2 PySem.Spec PyProof.Rows
/-! ### words of the law's own, decided -/
def prefs : Nat → List Nat → List Nat
  | a, [] => [a]
  | a, c :: w => a :: prefs (a + if c = 98 then 1 else 0) w
def bigL (l : List Nat) : Nat := l.foldl max 0
def smallL (l : List Nat) : Nat := l.foldl min (bigL l)
def unevB (P : List Nat) (s : Nat) : Bool := let l := List.zipWith (· - ·) (P.drop s) P; Nat.blt (smallL l + 1) (bigL l)
def firstB (P : List Nat) : Nat → Nat → Option Nat
  | 0, _ => none
  | k + 1, s => if unevB P s = true then some s else firstB P k (s + 1)
theorem prefs_eq : ∀ (w : List Nat) (a : Nat), prefs a w = (List.range (w.length + 1)).map fun i => a + (w.take i).count 98
  | [], a => by simp [prefs]
  | c :: w, a => by
    rw [prefs, prefs_eq w, List.length_cons, List.range_succ_eq_map (n := w.length + 1), List.map_cons, List.map_map]
    congr 1
    apply List.map_congr_left
    intro i _
    show _ = a + ((c :: w).take (i + 1)).count 98
    rw [List.take_succ_cons, List.count_cons]
    by_cases h : c = 98 <;> simp [h] <;> omega
theorem fold_max : ∀ (l : List Nat) (a : Nat), (∀ x ∈ l, x ≤ l.foldl max a) ∧ a ≤ l.foldl max a ∧ (l.foldl max a = a ∨ l.foldl max a ∈ l)
  | [], a => ⟨(fun x h => by cases h), Nat.le_refl _, .inl rfl⟩
  | y :: l, a => by
    obtain ⟨h1, h2, h3⟩ := fold_max l (max a y)
    rw [List.foldl_cons]
    refine ⟨fun x hx => ?_, by omega, ?_⟩
    · rcases List.mem_cons.mp hx with rfl | hx
      · omega
      · exact h1 x hx
    · rcases h3 with h3 | h3
      · rw [h3]
        by_cases c : a ≤ y
        · rw [Nat.max_eq_right c]; exact .inr (List.mem_cons_self ..)
        · rw [Nat.max_eq_left (by omega)]; exact .inl rfl
      · exact .inr (List.mem_cons_of_mem _ h3)
theorem fold_min : ∀ (l : List Nat) (a : Nat), (∀ x ∈ l, l.foldl min a ≤ x) ∧ l.foldl min a ≤ a ∧ (l.foldl min a = a ∨ l.foldl min a ∈ l)
  | [], a => ⟨(fun x h => by cases h), Nat.le_refl _, .inl rfl⟩
  | y :: l, a => by
    obtain ⟨h1, h2, h3⟩ := fold_min l (min a y)
    rw [List.foldl_cons]
    refine ⟨fun x hx => ?_, by omega, ?_⟩
    · rcases List.mem_cons.mp hx with rfl | hx
      · omega
      · exact h1 x hx
    · rcases h3 with h3 | h3
      · rw [h3]
        by_cases c : a ≤ y
        · rw [Nat.min_eq_left c]; exact .inl rfl
        · rw [Nat.min_eq_right (by omega)]; exact .inr (List.mem_cons_self ..)
      · exact .inr (List.mem_cons_of_mem _ h3)

theorem zip_range (f : Nat → Nat) (n s : Nat) : List.zipWith (· - ·) (((List.range n).map f).drop s) ((List.range n).map f) = (List.range (n - s)).map fun p => f (p + s) - f p := by
  rw [drop_range]
  apply List.ext_getElem?
  intro i
  rw [List.getElem?_zipWith]
  simp only [List.getElem?_map]
  by_cases hi : i < n - s
  · rw [List.getElem?_range hi, List.getElem?_range (by omega)]; rfl
  · rw [List.getElem?_eq_none (l := List.range (n - s)) (by simpa using hi)]
    rfl
theorem count_mono (w : List Nat) {i j : Nat} (h : i ≤ j) : (w.take i).count 98 ≤ (w.take j).count 98 := by
  have : w.take i = (w.take j).take i := by rw [List.take_take, Nat.min_eq_left h]
  rw [this]
  exact (List.take_sublist _ _).count_le 98
theorem unevB_iff {w : List Nat} {s : Nat} (hs : s ≤ w.length) : unevB (prefs 0 w) s = true ↔ Unev w s := by
  unfold unevB
  rw [prefs_eq, zip_range]
  dsimp only
  rw [blt_iff]
  obtain ⟨c, hc⟩ : ∃ c : Nat → Nat, c = fun i => 0 + (w.take i).count 98 := ⟨_, rfl⟩
  have hcw : ∀ p, ((c (p + s) - c p : Nat) : Int) = win w s p := by
    intro p
    have := count_mono w (show p ≤ p + s by omega)
    rw [hc]
    unfold win cnt
    dsimp only
    omega
  have ec : (List.range (w.length + 1 - s)).map (fun p => 0 + (w.take (p + s)).count 98 - (0 + (w.take p).count 98)) = (List.range (w.length + 1 - s)).map (fun p => c (p + s) - c p) := by rw [hc]
  rw [ec]
  generalize hl : (List.range (w.length + 1 - s)).map (fun p => c (p + s) - c p) = l
  have hmem : ∀ x, x ∈ l ↔ ∃ p, p + s ≤ w.length ∧ x = c (p + s) - c p := by
    intro x
    rw [← hl, List.mem_map]
    constructor
    · rintro ⟨p, h1, h2⟩
      exact ⟨p, by have := List.mem_range.mp h1; omega, h2.symm⟩
    · rintro ⟨p, h1, h2⟩
      exact ⟨p, List.mem_range.mpr (by omega), h2.symm⟩
  obtain ⟨a1, _, a3⟩ := fold_max l 0
  obtain ⟨b1, b2, b3⟩ := fold_min l (bigL l)
  have hbig : bigL l = l.foldl max 0 := rfl
  have hsm : smallL l = l.foldl min (bigL l) := rfl
  constructor
  · intro h
    have m1 : bigL l ∈ l := by
      rcases a3 with q | q
      · rw [← hbig] at q; omega
      · exact q
    have m2 : smallL l ∈ l := by
      rcases b3 with q | q
      · rw [hsm, q]; exact m1
      · exact q
    obtain ⟨p, p1, p2⟩ := (hmem _).mp m1
    obtain ⟨q, q1, q2⟩ := (hmem _).mp m2
    refine ⟨p, q, p1, q1, ?_⟩
    rw [← hcw, ← hcw, ← p2, ← q2]
    omega
  · rintro ⟨p, q, h1, h2, h3⟩
    have m1 := a1 _ ((hmem _).mpr ⟨p, h1, rfl⟩)
    have m2 := b1 _ ((hmem _).mpr ⟨q, h2, rfl⟩)
    rw [← hcw, ← hcw] at h3
    rw [← hbig] at m1
    rw [← hsm] at m2
    omega
theorem firstB_ok {w : List Nat} : ∀ (k s : Nat), 1 ≤ s → s + k = w.length → (∀ t, 1 ≤ t → t < s → ¬ Unev w t) → (∃ t, firstB (prefs 0 w) k s = some t ∧ FirstU w t) ∨ (firstB (prefs 0 w) k s = none ∧ NoU w)
  | 0, s, h1, h2, h => .inr ⟨rfl, fun t t1 t2 => h t t1 (by omega)⟩
  | k + 1, s, h1, h2, h => by
    unfold firstB
    by_cases c : unevB (prefs 0 w) s = true
    · rw [if_pos c]
      exact .inl ⟨s, rfl, h1, by omega, (unevB_iff (by omega)).mp c, h⟩
    · rw [if_neg c]
      refine firstB_ok k (s + 1) (by omega) (by omega) fun t t1 t2 => ?_
      by_cases e : t = s
      · subst e; exact fun z => c ((unevB_iff (by omega)).mpr z)
      · exact h t t1 (by omega)
end EK

set_option Elab.async false
set_option linter.all false
set_option maxRecDepth 100000
set_option maxHeartbeats 4000000
namespace EK
open PySem L2 PySem.Spec PyProof.Rows
theorem line_step {p b st : Int} (h0 : 0 ≤ p) (h1 : p ≤ b) (hb : 0 < b) (k : Nat) : (p * ((k + 1 : Nat) : Int) + st) / b - (p * (k : Int) + st) / b = if (p * (k : Int) + st) / b < (p * ((k + 1 : Nat) : Int) + st) / b then 1 else 0 := by
  have e : p * ((k + 1 : Nat) : Int) + st = (p * (k : Int) + st) + p := by
    rw [Int.natCast_add, Int.mul_add]; simp; omega
  rw [e]
  generalize p * (k : Int) + st = x
  have h2 : x / b ≤ (x + p) / b := Int.ediv_le_ediv hb (by omega)
  have h3 : (x + p) / b ≤ x / b + 1 := by
    have : (x + p) / b ≤ (x + b) / b := Int.ediv_le_ediv hb (by omega)
    rw [Int.add_ediv_of_dvd_right (Int.dvd_refl b), Int.ediv_self (by omega)] at this
    exact this
  split <;> omega
theorem line_cnt {p b st : Int} (h0 : 0 ≤ p) (h1 : p ≤ b) (hb : 0 < b) (n : Nat) : ∀ i, i ≤ n → cnt (lineW p b st n) i = (p * (i : Int) + st) / b - st / b
  | 0, _ => by rw [cnt_zero]; simp
  | i + 1, hi => by
    have hg : (lineW p b st n)[i]? = some (if (p * (i : Int) + st) / b < (p * ((i + 1 : Nat) : Int) + st) / b then 98 else 97) := by
      unfold lineW
      rw [List.getElem?_map, List.getElem?_range (by omega)]; rfl
    rw [cnt_succ hg, line_cnt h0 h1 hb n i (by omega)]
    have := line_step (st := st) h0 h1 hb i
    split at this <;> rename_i c
    · rw [if_pos c, if_pos rfl]; omega
    · rw [if_neg c, if_neg (by decide)]; omega
theorem line_even {p b st : Int} (h0 : 0 ≤ p) (h1 : p ≤ b) (hb : 0 < b) (n : Nat) : NoU (lineW p b st n) := by
  intro s s1 s2 ⟨x, y, hx, hy, h⟩
  rw [lineW_len] at hx hy
  unfold win at h
  rw [line_cnt h0 h1 hb n _ hx, line_cnt h0 h1 hb n _ (by omega), line_cnt h0 h1 hb n _ hy, line_cnt h0 h1 hb n _ (by omega)] at h
  have e : ∀ z : Nat, p * ((z + s : Nat) : Int) + st = (p * (z : Int) + st) + p * (s : Int) := fun z => by
    rw [Int.natCast_add, Int.mul_add]; omega
  rw [e, e] at h
  generalize p * (s : Int) = m at h
  generalize p * (x : Int) + st = u at h
  generalize p * (y : Int) + st = v at h
  have k1 := Int.emod_nonneg u (by omega : b ≠ 0)
  have k2 := Int.emod_lt_of_pos u hb
  have k3 := Int.emod_nonneg v (by omega : b ≠ 0)
  have k4 := Int.emod_lt_of_pos v hb
  have k5 := Int.emod_nonneg m (by omega : b ≠ 0)
  have k6 := Int.emod_lt_of_pos m hb
  have d1 : (u + m) / b ≤ u / b + m / b + 1 := by
    have : u + m < b * (u / b + m / b + 1 + 1) := by
      have e1 := Int.mul_ediv_add_emod u b
      have e2 := Int.mul_ediv_add_emod m b
      rw [Int.mul_add, Int.mul_add, Int.mul_add]; omega
    have := Int.ediv_lt_of_lt_mul hb (by rw [Int.mul_comm] at this; exact this)
    omega
  have d2 : v / b + m / b ≤ (v + m) / b := by
    apply Int.le_ediv_of_mul_le hb
    have e1 := Int.mul_ediv_add_emod v b
    have e2 := Int.mul_ediv_add_emod m b
    rw [Int.add_mul, Int.mul_comm _ b, Int.mul_comm _ b]; omega
  omega
end EK

set_option Elab.async false
set_option linter.all false
set_option maxRecDepth 100000
set_option maxHeartbeats 4000000
namespace EK
open PySem L2 PySem.Spec PyProof.Rows
/-! ### answers at given words -/
def fB (w : List Nat) : Option Nat := firstB (prefs 0 w) (w.length - 1) 1
theorem fB_some {w : List Nat} {t : Nat} (h : fB w = some t) : FirstU w t := by
  have hl : 1 + (w.length - 1) = w.length := by
    cases w with
    | nil => cases h
    | cons c w => rw [List.length_cons]; omega
  rcases firstB_ok (w := w) (w.length - 1) 1 (Nat.le_refl _) hl (fun t t1 t2 => by omega) with ⟨t', e, q⟩ | ⟨e, q⟩
  · have : some t' = some t := e.symm.trans h
    cases this; exact q
  · have : none = some t := e.symm.trans h
    cases this
theorem fB_none {w : List Nat} (h : fB w = none) : NoU w := by
  by_cases hw : w = []
  · subst hw; exact noU_nil
  · have hl : 1 + (w.length - 1) = w.length := by
      have := List.length_pos_iff.mpr hw; omega
    rcases firstB_ok (w := w) (w.length - 1) 1 (Nat.le_refl _) hl (fun t t1 t2 => by omega) with ⟨t', e, q⟩ | ⟨e, q⟩
    · have : some t' = none := e.symm.trans h
      cases this
    · exact q
theorem ev_yes {F : Fsem} (hF : EvOk F) {w : List Nat} (hw : Wd w) (hl : w.length ≤ 400) (h : NoU w) (S : Sto) : F [.str w] S = .ok (.bl true) S :=
  ((hF w S hw hl).resolve_right fun ⟨⟨_, z⟩, _⟩ => z.no h).2
theorem ev_no {F : Fsem} (hF : EvOk F) {w : List Nat} (hw : Wd w) (hl : w.length ≤ 400) (h : ¬ NoU w) (S : Sto) : F [.str w] S = .ok (.bl false) S :=
  ((hF w S hw hl).resolve_left fun ⟨z, _⟩ => h z).2
theorem us_is {F : Fsem} (hF : UsOk F) {w : List Nat} (hw : Wd w) (hl : w.length ≤ 400) {t : Nat} (h : FirstU w t) (S : Sto) : F [.str w] S = .ok (.int t) S := by
  obtain ⟨s, q1, q2⟩ := (hF w S hw hl).resolve_left fun ⟨z, _⟩ => h.no z
  rw [q1.uniq h] at q2
  exact q2
theorem lg_is {F : Fsem} (hF : LgOk F) {w v : List Nat} (hw : Wd w) (hl : w.length ≤ 400) (h : Lgst w v) (S : Sto) : F [.str w] S = .ok (.str v) S := by
  obtain ⟨v', q1, q2⟩ := hF w S hw hl
  rw [q1.uniq h] at q2
  exact q2
def wdB (w : List Nat) : Bool := w.all fun c => c == 97 || c == 98
theorem wdB_ok {w : List Nat} (h : wdB w = true) : Wd w := fun c hc => by
  have := List.all_eq_true.mp h c hc
  simpa using this
/-- a shorter part of an even part is even -/
theorem noU_less {w : List Nat} {b L L' : Nat} (h : b + L ≤ w.length) (hl : L' ≤ L) (n : NoU (Part w b L)) : NoU (Part w b L') := by
  have e1 : Part w b L = Part w b (b + L - b) := by rw [show b + L - b = L by omega]
  have e2 : Part w b L' = Part w b (b + L' - b) := by rw [show b + L' - b = L' by omega]
  rw [e1, noU_part (by omega) h] at n
  rw [e2, noU_part (by omega) (by omega)]
  intro p hp
  refine n p ?_
  obtain ⟨s, q, a1, a2, a3, a4⟩ := hp
  exact ⟨s, q, a1, a2, by omega, a4⟩
def unB (w : List Nat) : Bool := (fB w).isSome
theorem unB_ok {w : List Nat} (h : unB w = true) : ¬ NoU w := by
  unfold unB at h
  cases e : fB w with
  | none => rw [e] at h; cases h
  | some t => exact fun z => (fB_some e).no z
def lgB (w : List Nat) (b L : Nat) : Bool := decide (b + L ≤ w.length) && (fB (Part w b L)).isNone && ((List.range (w.length - L)).all fun c => unB (Part w c (L + 1))) && (List.range b).all fun c => unB (Part w c L)
theorem lgB_ok {w : List Nat} {b L : Nat} (h : lgB w b L = true) : Lgst w (Part w b L) := by
  unfold lgB at h
  simp only [Bool.and_eq_true, decide_eq_true_iff, List.all_eq_true, Option.isNone_iff_eq_none] at h
  obtain ⟨⟨⟨h1, h2⟩, h3⟩, h4⟩ := h
  refine ⟨b, L, h1, rfl, fB_none h2, fun b' L' g1 g2 => ?_⟩
  by_cases c : L' < L
  · exact .inl c
  · right
    have e : L' = L := by
      refine Nat.le_antisymm (Nat.le_of_not_lt fun z => ?_) (by omega)
      exact unB_ok (h3 b' (List.mem_range.mpr (by omega))) (noU_less g1 (by omega) g2)
    refine ⟨e, Nat.le_of_not_lt fun z => ?_⟩
    subst e
    exact unB_ok (h4 b' (List.mem_range.mpr z)) g2
theorem lgst_self {w : List Nat} (h : NoU w) : Lgst w w := by
  refine ⟨0, w.length, by omega, by unfold Part; simp, h, fun b' L' g1 g2 => ?_⟩
  omega
end EK

set_option Elab.async false
set_option linter.all false
set_option maxRecDepth 100000
set_option maxHeartbeats 4000000
namespace EK
open PySem L2 PySem.Spec PyProof.Rows
/-! ### replacements -/
def imgW (u v w : List Nat) : List Nat := (w.map fun c => if c = 97 then u else v).flatten
abbrev pd (u v : List Nat) : D := .tup [.str u, .str v]
theorem imgW_nil {u v : List Nat} : imgW u v [] = [] := rfl
theorem imgW_cons {u v w : List Nat} {c : Nat} : imgW u v (c :: w) = (if c = 97 then u else v) ++ imgW u v w := by simp [imgW]
theorem imgW_app {u v w z : List Nat} : imgW u v (w ++ z) = imgW u v w ++ imgW u v z := by simp [imgW]
theorem imgW_len {u v : List Nat} {m : Nat} (hu : u.length ≤ m) (hv : v.length ≤ m) : ∀ w : List Nat, (imgW u v w).length ≤ w.length * m
  | [] => by simp [imgW]
  | c :: w => by
    have := imgW_len hu hv w
    rw [imgW_cons, List.length_append, List.length_cons, Nat.succ_mul]
    split <;> omega
theorem imgW_pos {u v : List Nat} (hu : 1 ≤ u.length) (hv : 1 ≤ v.length) : ∀ w : List Nat, w.length ≤ (imgW u v w).length
  | [] => by simp [imgW]
  | c :: w => by
    have := imgW_pos hu hv w
    rw [imgW_cons, List.length_append, List.length_cons]
    split <;> omega
theorem imgW_wd {u v : List Nat} (hu : Wd u) (hv : Wd v) : ∀ w : List Nat, Wd (imgW u v w)
  | [] => fun c h => by cases h
  | c :: w => by
    rw [imgW_cons]
    intro x hx
    rcases List.mem_append.mp hx with h | h
    · split at h
      · exact hu x h
      · exact hv x h
    · exact imgW_wd hu hv w x h
structure Rp (u v : List Nat) : Prop where
  wu : Wd u
  wv : Wd v
  u1 : 1 ≤ u.length
  u2 : u.length ≤ 60
  v1 : 1 ≤ v.length
  v2 : v.length ≤ 60
theorem idx_natT {xs : List D} {i : Int} {j : Nat} {d : D} (h : xs[j]? = some d) (hi : i = j) : idxD (.tup xs) (.int i) = some d := by
  show atI _ _ = _
  have := (List.getElem?_eq_some_iff.mp h).1
  rw [at_of (by omega) (by omega)]
  subst hi
  rw [← h, List.getElem?_eq_getElem this]
  rfl
@[simp] theorem idx_t0 {x : D} {xs : List D} : idxD (.tup (x :: xs)) (.int 0) = some x := idx_natT (j := 0) rfl rfl
@[simp] theorem idx_t1 {x y : D} {xs : List D} : idxD (.tup (x :: y :: xs)) (.int 1) = some y := idx_natT (j := 1) rfl rfl
@[simp] theorem idx_t2 {x y z : D} {xs : List D} : idxD (.tup (x :: y :: z :: xs)) (.int 2) = some z := idx_natT (j := 2) rfl rfl
theorem lenS_of {s : List Nat} (h : s.length ≤ 1000000) : lenD [.str s] = some (.int s.length) := lenS (by show s.length ≤ 16777216; omega)
section
variable {Φ Φf : Str → Option Fsem} {G : Str → Option D} {fuel : Nat}
def eImgIn : CE := .ite (.cmp .Eq (.var 2) (.con (.str [97]))) (.idx (.var 0) (.con (.int 0))) (.idx (.var 0) (.con (.int 1)))
def bImgIn : List CS := [.ret (.mth .join (.con (.str [])) (.lc eImgIn (.one 2) .seq [.var 1] (.con (.bl true)) [("letter", 2)]))]
def IiOk (F : Fsem) : Prop := ∀ (u v w : List Nat) (S : Sto), w.length ≤ 1000000 → (imgW u v w).length ≤ 1000000 → F [pd u v, .str w] S = .ok (.str (imgW u v w)) S
theorem iiOk : IiOk (fsem Φ Φf G fuel 2 3 bImgIn) := by
  intro u v w S hw hi
  have e0 : lcLoop (fun _ S => .ok (.bl true) S) (ev Φ G eImgIn) (.one 2) [some (pd u v), some (.str w), none] (w.map fun c => .str [c]) [] S = .ok (.lst (w.map fun c => .str (if c = 97 then u else v))) S := by
    rw [lc_at (fun c => .str [c]) (fun c => .str (if c = 97 then u else v)) _ _ fun c hc => ⟨_, rfl, rfl, ?_, rfl⟩]
    · rfl
    · by_cases h : c = 97 <;> simp [eImgIn, h]
  have hl : w.length ≤ 16777216 := by omega
  have hj := join_strs (ys := w.map fun c => if c = 97 then u else v) (by
    have : (imgW u v w).length = ((w.map fun c => if c = 97 then u else v).map (·.length)).sum := by unfold imgW; rw [List.length_flatten]
    rw [← this]; show (imgW u v w).length ≤ 16777216; omega)
  rw [List.map_map] at hj
  have hj : joinD (.str []) (.lst (w.map fun c => .str (if c = 97 then u else v))) = some (.str (imgW u v w)) := hj
  simp [bImgIn, e0, szL, hl, hj]
def lNeedRep : List CS := [.ite (.not (.call "is_word" [.var 2, .con (.int 1), .glob "MOST_SIZE"])) [.never] []]
def bNeedRep : List CS := [.ite (.or (.not (.isi (.var 0) "tuple")) (.cmp .NotEq (.blt .len [.var 0]) (.con (.int 2)))) [.never] [],
  .loop (.many [1, 2]) .enm [.var 0] lNeedRep, .ret (.var 0)]
def NrOk (F : Fsem) : Prop := ∀ (u v : List Nat) (S : Sto), Rp u v → F [pd u v] S = .ok (pd u v) S
theorem nrOk {F : Fsem} (g : G "MOST_SIZE" = some (.int 60)) (e : Φ "is_word" = some F) (h : IwOk F) : NrOk (fsem Φ Φf G fuel 1 3 bNeedRep) := by
  intro u v S r
  have a1 := h u 1 60 S r.wu (by have := r.u2; show u.length ≤ 16777216; omega) (by have := r.u1; omega) (by have := r.u2; omega)
  have a2 := h v 1 60 S r.wv (by have := r.v2; show v.length ≤ 16777216; omega) (by have := r.v1; omega) (by have := r.v2; omega)
  have i1 : isiD "tuple" (pd u v) = some (.bl true) := rfl
  have i2 : cmpD .NotEq (.int 2) (.int 2) = some (.bl false) := rfl
  have i3 : itD .enm [pd u v] = some [.tup [.int 0, .str u], .tup [.int 1, .str v]] := rfl
  simp [bNeedRep, lNeedRep, i1, i2, i3, loopN, e, g, a1, a2]
def bImage : List CS := [.exp (.call "need_replacement" [.var 0]), .ret (.call "image_in" [.var 0, .call "need_word" [.var 1]])]
def ImOk (F : Fsem) : Prop := ∀ (u v w : List Nat) (S : Sto), Rp u v → Wd w → w.length ≤ 400 → F [pd u v, .str w] S = .ok (.str (imgW u v w)) S
theorem imOk {Fr Fi Fw : Fsem} (er : Φ "need_replacement" = some Fr) (hr : NrOk Fr) (ei : Φ "image_in" = some Fi) (hi : IiOk Fi) (ew : Φ "need_word" = some Fw) (hw : NwOk Fw) : ImOk (fsem Φ Φf G fuel 2 2 bImage) := by
  intro u v w S r w1 w2
  have a1 := hr u v S r
  have a2 := hw w S w1 w2
  have a3 := hi u v w S (by omega) (by have := imgW_len r.u2 r.v2 w; omega)
  simp [bImage, er, ei, ew, a1, a2, a3]
def bBehindIn : List CS := [.set (.one 2) (.tup [.call "image_in" [.var 0, .idx (.var 1) (.con (.int 0))], .call "image_in" [.var 0, .idx (.var 1) (.con (.int 1))]]),
  .ite (.cmp .Gt (.blt .max [.blt .len [.idx (.var 2) (.con (.int 0))], .blt .len [.idx (.var 2) (.con (.int 1))]]) (.glob "MOST_SIZE")) [.never] [],
  .ret (.var 2)]
theorem max2 {i j : Nat} {m : Int} (h1 : (i : Int) ≤ m) (h2 : (j : Int) ≤ m) : ∃ k : Int, maxD [.int i, .int j] = some (.int k) ∧ k ≤ m := by
  refine ⟨_, rfl, ?_⟩
  split <;> omega
def BiOk (F : Fsem) : Prop := ∀ (u v x y : List Nat) (S : Sto), Rp u v → Rp x y → (imgW u v x).length ≤ 60 → (imgW u v y).length ≤ 60 → F [pd u v, pd x y] S = .ok (pd (imgW u v x) (imgW u v y)) S
theorem biOk {Fi : Fsem} (g : G "MOST_SIZE" = some (.int 60)) (ei : Φ "image_in" = some Fi) (hi : IiOk Fi) : BiOk (fsem Φ Φf G fuel 2 3 bBehindIn) := by
  intro u v x y S r q h1 h2
  have a1 := hi u v x S (by have := q.u2; omega) (by omega)
  have a2 := hi u v y S (by have := q.v2; omega) (by omega)
  have l1 := lenS_of (s := imgW u v x) (by omega)
  have l2 := lenS_of (s := imgW u v y) (by omega)
  obtain ⟨k, m, hk⟩ := max2 (i := (imgW u v x).length) (j := (imgW u v y).length) (m := 60) (by omega) (by omega)
  have hk' : ¬ (60 < k) := by omega
  simp [bBehindIn, ei, a1, a2, szL, l1, l2, m, g, hk']
def bBehind : List CS := [.exp (.call "need_replacement" [.var 0]), .ret (.call "behind_in" [.var 0, .call "need_replacement" [.var 1]])]
theorem bhOk {Fr Fb : Fsem} (er : Φ "need_replacement" = some Fr) (hr : NrOk Fr) (eb : Φ "behind_in" = some Fb) (hb : BiOk Fb) : BiOk (fsem Φ Φf G fuel 2 2 bBehind) := by
  intro u v x y S r q h1 h2
  have a1 := hr u v S r
  have a2 := hr x y S q
  have a3 := hb u v x y S r q h1 h2
  simp [bBehind, er, eb, a1, a2, a3]
def bWhole : List CS := [.ret (.and (.isi (.var 0) "int") (.and (.not (.isi (.var 0) "bool")) (.cmp .GtE (.var 0) (.var 1))))]
def WhOk (F : Fsem) : Prop := ∀ (n m : Int) (S : Sto), F [.int n, .int m] S = .ok (.bl (decide (m ≤ n))) S
theorem whOk : WhOk (fsem Φ Φf G fuel 2 2 bWhole) := by
  intro n m S
  have i1 : isiD "int" (.int n) = some (.bl true) := rfl
  have i2 : isiD "bool" (.int n) = some (.bl false) := rfl
  simp [bWhole, i1, i2]
  by_cases h : n < m
  · simp [h]
  · simp [h]; omega
/-- a pair behind itself, k times -/
def pwW (u v : List Nat) : Nat → List Nat × List Nat
  | 0 => ([97], [98])
  | k + 1 => (imgW u v (pwW u v k).1, imgW u v (pwW u v k).2)
def lOften : List CS := [.set (.one 2) (.call "behind_in" [.var 0, .var 2])]
def bOften : List CS := [.exp (.call "need_replacement" [.var 0]),
  .ite (.or (.not (.call "is_whole" [.var 1, .con (.int 1)])) (.cmp .Gt (.var 1) (.glob "MOST_OFTEN"))) [.never] [],
  .set (.one 2) (.glob "SAME"), .loop (.one 3) .rng [.var 1] lOften, .ret (.var 2)]
theorem pw_rp {u v : List Nat} (r : Rp u v) {n : Nat} (h : ∀ k, k ≤ n → (pwW u v k).1.length ≤ 60 ∧ (pwW u v k).2.length ≤ 60) : ∀ k, k ≤ n → Rp (pwW u v k).1 (pwW u v k).2
  | 0, _ => ⟨fun c h => by simp [pwW] at h; exact .inl h, fun c h => by simp [pwW] at h; exact .inr h, by simp [pwW], by simp [pwW], by simp [pwW], by simp [pwW]⟩
  | k + 1, hk => by
    have ih := pw_rp r h k (by omega)
    obtain ⟨h1, h2⟩ := h (k + 1) hk
    refine ⟨imgW_wd r.wu r.wv _, imgW_wd r.wu r.wv _, ?_, h1, ?_, h2⟩
    · exact Nat.le_trans ih.u1 (imgW_pos r.u1 r.v1 _)
    · exact Nat.le_trans ih.v1 (imgW_pos r.u1 r.v1 _)
def OnOk (F : Fsem) : Prop := ∀ (u v : List Nat) (n : Nat) (S : Sto), Rp u v → 1 ≤ n → n ≤ 60 → (∀ k, k ≤ n → (pwW u v k).1.length ≤ 60 ∧ (pwW u v k).2.length ≤ 60) → F [pd u v, .int n] S = .ok (pd (pwW u v n).1 (pwW u v n).2) S
theorem onOk {Fr Fb Fw : Fsem} (g1 : G "MOST_OFTEN" = some (.int 60)) (g2 : G "SAME" = some (pd [97] [98])) (er : Φ "need_replacement" = some Fr) (hr : NrOk Fr) (eb : Φ "behind_in" = some Fb) (hb : BiOk Fb) (ew : Φ "is_whole" = some Fw) (hw : WhOk Fw) : OnOk (fsem Φ Φf G fuel 2 4 bOften) := by
  intro u v n S r n1 n2 hp
  have a1 := hr u v S r
  have a2 := hw n 1 S
  have a2 : Fw [.int n, .int 1] S = .ok (.bl true) S := by rw [a2, decide_eq_true (by omega)]
  have n3 : ¬ (60 < (n : Int)) := by omega
  have hi : itD .rng [.int n] = some (rngL 0 n) := it_rng1 (in62_of (by omega) (by omega)) (by omega)
  have hl : ∀ n0 : Nat, ∃ x, loopN (exSs Φ Φf G fuel n0 lOften) (.one 3) (rngL 0 n) [some (pd u v), some (.int n), some (pd [97] [98]), none] S = .next [some (pd u v), some (.int n), some (pd (pwW u v n).1 (pwW u v n).2), x] S := by
    intro n0
    refine loop0 (I := fun i Γ S' => S' = S ∧ ∃ x, Γ = [some (pd u v), some (.int n), some (pd (pwW u v i).1 (pwW u v i).2), x]) (post := fun q => ∃ x, q = .next [some (pd u v), some (.int n), some (pd (pwW u v n).1 (pwW u v n).2), x] S) ⟨rfl, none, rfl⟩ ?_ ?_
    · rintro i x Γ S' hx ⟨rfl, y, rfl⟩
      obtain ⟨hi, rfl⟩ := rngAt hx
      have q := pw_rp r hp i (by omega)
      obtain ⟨l1, l2⟩ := hp (i + 1) (by omega)
      have b := hb u v (pwW u v i).1 (pwW u v i).2 S' r q l1 l2
      refine ⟨_, rfl, .inl ⟨_, S', ?_, rfl, some (.int (0 + (i : Int))), rfl⟩⟩
      simp [lOften, eb, b, pwW]
    · rintro Γ S' ⟨rfl, x, rfl⟩
      rw [rng_len]
      exact ⟨x, rfl⟩
  obtain ⟨x, hl⟩ := hl S.length
  simp [bOften, er, ew, a1, a2, n3, g1, g2, hi, hl]
end
end EK

set_option Elab.async false
set_option linter.all false
set_option maxRecDepth 100000
set_option maxHeartbeats 4000000
namespace EK
open PySem L2 PySem.Spec PyProof.Rows
/-! ### the law's own images, names, pairs -/
section
variable {Φ Φf : Str → Option Fsem} {G : Str → Option D} {fuel : Nat}
def lLImg : List CS := [.set (.one 2) (.bin .Add (.var 2) (.idx (.var 0) (.blt .int [.cmp .Eq (.var 3) (.con (.str [98]))])))]
def bLImg : List CS := [.set (.one 2) (.con (.str [])), .loop (.one 3) .seq [.var 1] lLImg, .ret (.var 2)]
def LiOk (F : Fsem) : Prop := ∀ (u v w : List Nat) (S : Sto), Wd w → (imgW u v w).length ≤ 1000000 → F [pd u v, .str w] S = .ok (.str (imgW u v w)) S
theorem liOk : LiOk (fsem Φ Φf G fuel 2 4 bLImg) := by
  intro u v w S hw hi
  have key : ∀ n0 : Nat, ∃ x, loopN (exSs Φ Φf G fuel n0 lLImg) (.one 3) (w.map fun c => .str [c]) [some (pd u v), some (.str w), some (.str []), none] S = .next [some (pd u v), some (.str w), some (.str (imgW u v w)), x] S := by
    intro n0
    refine loop0 (I := fun i Γ S' => S' = S ∧ ∃ x, Γ = [some (pd u v), some (.str w), some (.str (imgW u v (w.take i))), x]) (post := fun q => ∃ x, q = .next [some (pd u v), some (.str w), some (.str (imgW u v w)), x] S) ⟨rfl, none, rfl⟩ ?_ ?_
    · rintro i x Γ S' hx ⟨rfl, y, rfl⟩
      rw [List.getElem?_map] at hx
      cases hc : w[i]? with
      | none => rw [hc] at hx; cases hx
      | some c =>
        rw [hc] at hx
        cases hx
        have hi' := (List.getElem?_eq_some_iff.mp hc).1
        have et : w.take (i + 1) = w.take i ++ [c] := by
          rw [List.take_add_one, hc]; rfl
        have ei : imgW u v (w.take (i + 1)) = imgW u v (w.take i) ++ (if c = 97 then u else v) := by
          rw [et, imgW_app]; simp [imgW]
        have hle : (imgW u v (w.take (i + 1))).length ≤ (imgW u v w).length := by
          have : imgW u v w = imgW u v (w.take (i + 1)) ++ imgW u v (w.drop (i + 1)) := by rw [← imgW_app, List.take_append_drop]
          rw [this, List.length_append]; omega
        refine ⟨_, rfl, .inl ⟨_, S', ?_, rfl, some (.str [c]), rfl⟩⟩
        rw [ei] at hle ⊢
        rw [List.length_append] at hle
        have cw := hw c (List.mem_of_getElem? hc)
        by_cases h : c = 97
        · rw [if_pos h] at hle ⊢
          have a := add_str (s := imgW u v (w.take i)) (t := u) (by show _ ≤ 16777216; omega)
          simp [lLImg, h, a]
        · rw [if_neg h] at hle ⊢
          have h98 : c = 98 := cw.resolve_left h
          have a := add_str (s := imgW u v (w.take i)) (t := v) (by show _ ≤ 16777216; omega)
          simp [lLImg, h98, a]
    · rintro Γ S' ⟨rfl, x, rfl⟩
      rw [List.length_map, List.take_length]
      exact ⟨x, rfl⟩
  obtain ⟨x, key⟩ := key S.length
  simp [bLImg, key]
/-- the three names -/
inductive Nm where
  | back | front | swap
def Nm.s : Nm → List Nat
  | .back => [98, 97, 99, 107]
  | .front => [102, 114, 111, 110, 116]
  | .swap => [115, 119, 97, 112]
def Nm.a : Nm → List Nat
  | .back => [98, 97]
  | .front => [97, 98]
  | .swap => [98]
def Nm.b : Nm → List Nat
  | _ => [97]
def nmD (n : Nm) : D := .str n.s
theorem Nm.rp (n : Nm) : Rp n.a n.b := by
  cases n <;> exact ⟨wdB_ok rfl, wdB_ok rfl, by decide, by decide, by decide, by decide⟩
def bMeant : List CS := [.ret (.idx (.dic [.inr "back", .inr "front", .inr "swap"] [.tup [.con (.str [98, 97]), .con (.str [97])], .tup [.con (.str [97, 98]), .con (.str [97])], .tup [.con (.str [98]), .con (.str [97])]]) (.var 0))]
def MeOk (F : Fsem) : Prop := ∀ (n : Nm) (S : Sto), F [nmD n] S = .ok (pd n.a n.b) S
theorem meOk : MeOk (fsem Φ Φf G fuel 1 1 bMeant) := by
  intro n S
  have nd : ([.inr "back", .inr "front", .inr "swap"] : List Key).Nodup := by decide
  have h2 : 2 ≤ szL := by decide
  have n1 : ¬ (Str.ofString "back" = Str.ofString "front") := by decide
  have n2 : ¬ (Str.ofString "back" = Str.ofString "swap") := by decide
  have n3 : ¬ (Str.ofString "front" = Str.ofString "swap") := by decide
  have e : idxD (.dic [(.inr "back", pd [98, 97] [97]), (.inr "front", pd [97, 98] [97]), (.inr "swap", pd [98] [97])]) (nmD n) = some (pd n.a n.b) := by cases n <;> rfl
  have hv : vw S (nmD n) = nmD n := by cases n <;> rfl
  simp [bMeant, h2, n1, n2, n3, e, hv]
/-- what names tell -/
def toldW : List Nm → List Nat × List Nat
  | [] => ([97], [98])
  | n :: r => (imgW n.a n.b (toldW r).1, imgW n.a n.b (toldW r).2)
theorem told_wd : ∀ ns : List Nm, Wd (toldW ns).1 ∧ Wd (toldW ns).2 ∧ 1 ≤ (toldW ns).1.length ∧ 1 ≤ (toldW ns).2.length
  | [] => ⟨fun c h => by simp [toldW] at h; exact .inl h, fun c h => by simp [toldW] at h; exact .inr h, by simp [toldW], by simp [toldW]⟩
  | n :: r => by
    obtain ⟨h1, h2, h3, h4⟩ := told_wd r
    have q := n.rp
    exact ⟨imgW_wd q.wu q.wv _, imgW_wd q.wu q.wv _, Nat.le_trans h3 (imgW_pos q.u1 q.v1 _), Nat.le_trans h4 (imgW_pos q.u1 q.v1 _)⟩
theorem told_len : ∀ ns : List Nm, (toldW ns).1.length ≤ 2 ^ ns.length ∧ (toldW ns).2.length ≤ 2 ^ ns.length
  | [] => by simp [toldW]
  | n :: r => by
    obtain ⟨h1, h2⟩ := told_len r
    have a1 := imgW_len (u := n.a) (v := n.b) (m := 2) (by cases n <;> decide) (by cases n <;> decide) (toldW r).1
    have a2 := imgW_len (u := n.a) (v := n.b) (m := 2) (by cases n <;> decide) (by cases n <;> decide) (toldW r).2
    rw [List.length_cons, Nat.pow_succ]
    simp only [toldW]
    omega
def lTold : List CS := [.set (.one 1) (.tup [.call "_law_image" [.call "_law_meant" [.var 2], .idx (.var 1) (.con (.int 0))], .call "_law_image" [.call "_law_meant" [.var 2], .idx (.var 1) (.con (.int 1))]])]
def bTold : List CS := [.set (.one 1) (.tup [.con (.str [97]), .con (.str [98])]), .loop (.one 2) .seq [.rev (.var 0)] lTold, .ret (.var 1)]
def ToOk (F : Fsem) : Prop := ∀ (ns : List Nm) (S : Sto), ns.length ≤ 18 → F [.tup (ns.map nmD)] S = .ok (pd (toldW ns).1 (toldW ns).2) S
theorem toOk {Fi Fm : Fsem} (ei : Φ "_law_image" = some Fi) (hi : LiOk Fi) (em : Φ "_law_meant" = some Fm) (hm : MeOk Fm) : ToOk (fsem Φ Φf G fuel 1 3 bTold) := by
  intro ns S hn
  have key : ∀ n0 : Nat, ∃ x, loopN (exSs Φ Φf G fuel n0 lTold) (.one 2) ((ns.map nmD).reverse) [some (.tup (ns.map nmD)), some (pd [97] [98]), none] S = .next [some (.tup (ns.map nmD)), some (pd (toldW ns).1 (toldW ns).2), x] S := by
    intro n0
    refine loop0 (I := fun i Γ S' => S' = S ∧ ∃ x, Γ = [some (.tup (ns.map nmD)), some (pd (toldW (ns.drop (ns.length - i))).1 (toldW (ns.drop (ns.length - i))).2), x]) (post := fun q => ∃ x, q = .next [some (.tup (ns.map nmD)), some (pd (toldW ns).1 (toldW ns).2), x] S) ⟨rfl, none, by simp [toldW]⟩ ?_ ?_
    · rintro i x Γ S' hx ⟨rfl, y, rfl⟩
      have hi' := (List.getElem?_eq_some_iff.mp hx).1
      rw [List.length_reverse, List.length_map] at hi'
      rw [List.getElem?_reverse (by rw [List.length_map]; exact hi'), List.length_map, List.getElem?_map] at hx
      obtain ⟨m, em', rfl⟩ : ∃ m, ns[ns.length - 1 - i]? = some m ∧ x = nmD m := by
        cases q : ns[ns.length - 1 - i]? with
        | none => rw [q] at hx; cases hx
        | some m => rw [q] at hx; cases hx; exact ⟨m, rfl, rfl⟩
      have ed : ns.drop (ns.length - (i + 1)) = m :: ns.drop (ns.length - i) := by
        have e1 : ns.length - (i + 1) = ns.length - 1 - i := by omega
        have e2 : ns.length - i = ns.length - 1 - i + 1 := by omega
        rw [e1, e2]
        have hlt := (List.getElem?_eq_some_iff.mp em').1
        rw [List.drop_eq_getElem_cons hlt]
        congr 1
        exact (List.getElem?_eq_some_iff.mp em').2
      obtain ⟨w1, w2, _, _⟩ := told_wd (ns.drop (ns.length - i))
      obtain ⟨l1, l2⟩ := told_len (m :: ns.drop (ns.length - i))
      have lb : 2 ^ (m :: ns.drop (ns.length - i)).length ≤ 2 ^ 18 := Nat.pow_le_pow_right (by omega) (by rw [← ed, List.length_drop]; omega)
      have b1 := hi m.a m.b _ S' w1 (by simp only [toldW] at l1; omega)
      have b2 := hi m.a m.b _ S' w2 (by simp only [toldW] at l2; omega)
      have mm := hm m S'
      refine ⟨_, rfl, .inl ⟨_, S', ?_, rfl, some (nmD m), rfl⟩⟩
      rw [ed]
      simp [lTold, ei, em, mm, b1, b2, szL, toldW]
    · rintro Γ S' ⟨rfl, x, rfl⟩
      rw [List.length_reverse, List.length_map, Nat.sub_self, List.drop_zero]
      exact ⟨x, rfl⟩
  obtain ⟨x, key⟩ := key S.length
  have r : revD (.tup (ns.map nmD)) = some (.tup (ns.map nmD).reverse) := rfl
  have h2 : 2 ≤ szL := by decide
  simp [bTold, h2, r, key]
def lNames : List CS := [.set (.one 4) (.bin .Add (.var 2) (.tup [.call "_law_of" [.var 0, .lst [.con (.str [98, 97, 99, 107]), .con (.str [102, 114, 111, 110, 116]), .con (.str [115, 119, 97, 112])]]])),
  .set (.one 5) (.call "_law_told" [.var 4]),
  .ite (.cmp .LtE (.blt .max [.blt .len [.idx (.var 5) (.con (.int 0))], .blt .len [.idx (.var 5) (.con (.int 1))]]) (.con (.int 60))) [.set (.one 2) (.var 4)] []]
def bNames : List CS := [.set (.one 2) (.tup []), .loop (.one 3) .rng [.call "_law_draw" [.var 0, .bin .Add (.var 1) (.con (.int 1))]] lNames, .ret (.var 2)]
def LnmOk (F : Fsem) : Prop := ∀ (b : Int) (most : Nat) (S : Sto), DS b S → b < 2 ^ 40 → most ≤ 16 → ∃ ns S', F [.loc 0, .int most] S = .ok (.tup (ns.map nmD)) S' ∧ ns.length ≤ most ∧ (toldW ns).1.length ≤ 60 ∧ (toldW ns).2.length ≤ 60 ∧ DS (b + 1 + most) S'
theorem add_tup {xs ys : List D} (h : xs.length + ys.length ≤ szL) : addD (.tup xs) (.tup ys) = some (.tup (xs ++ ys)) := by
  show (if xs.length + ys.length ≤ szL then some (D.tup (xs ++ ys)) else none) = _
  rw [if_pos h]
theorem max2v {i j : Nat} : maxD [.int i, .int j] = some (.int ((max i j : Nat) : Int)) := by
  show some (D.int (if (j : Int) > (i : Int) then (j : Int) else (i : Int))) = _
  congr 2
  split <;> omega
theorem nm_mem {x : D} (h : x ∈ [.str [98, 97, 99, 107], .str [102, 114, 111, 110, 116], (.str [115, 119, 97, 112] : D)]) : ∃ n, x = nmD n := by
  simp only [List.mem_cons, List.not_mem_nil, or_false] at h
  rcases h with rfl | rfl | rfl
  · exact ⟨.back, rfl⟩
  · exact ⟨.front, rfl⟩
  · exact ⟨.swap, rfl⟩
theorem names_body {Fo Ft : Fsem} (eo : Φ "_law_of" = some Fo) (ho : OfOk Fo) (et : Φ "_law_told" = some Ft) (ht : ToOk Ft) {b : Int} {S : Sto} {n0 : Nat} {ns : List Nm} {m : Nat} {x y z : Option D} (h0 : DS b S) (hb : b < 2 ^ 45) (hn : ns.length ≤ 17) (h1 : (toldW ns).1.length ≤ 60) (h2 : (toldW ns).2.length ≤ 60) :
    ∃ ns' y' z' S', exSs Φ Φf G fuel n0 lNames [some (.loc 0), some (.int m), some (.tup (ns.map nmD)), x, y, z] S = .next [some (.loc 0), some (.int m), some (.tup (ns'.map nmD)), x, y', z'] S' ∧ ns'.length ≤ ns.length + 1 ∧ (toldW ns').1.length ≤ 60 ∧ (toldW ns').2.length ≤ 60 ∧ DS (b + 1) S' := by
  obtain ⟨d, S1, d1, d2, d3⟩ := ho.1 b [.str [98, 97, 99, 107], .str [102, 114, 111, 110, 116], .str [115, 119, 97, 112]] S h0 (by omega) (by simp) (by simp) (by simp)
  obtain ⟨n, rfl⟩ := nm_mem d1
  have hz : szL = 16777216 := rfl
  have a := add_tup (xs := ns.map nmD) (ys := [nmD n]) (by rw [List.length_map, List.length_singleton, hz]; omega)
  have e : ns.map nmD ++ [nmD n] = (ns ++ [n]).map nmD := by simp
  rw [e] at a
  have t := ht (ns ++ [n]) S1 (by rw [List.length_append, List.length_singleton]; omega)
  have lb : 2 ^ (ns ++ [n]).length ≤ 2 ^ 18 := Nat.pow_le_pow_right (by omega) (by rw [List.length_append, List.length_singleton]; omega)
  obtain ⟨l1, l2⟩ := told_len (ns ++ [n])
  have k1 := lenS_of (s := (toldW (ns ++ [n])).1) (by omega)
  have k2 := lenS_of (s := (toldW (ns ++ [n])).2) (by omega)
  have nl : noLoc (nmD n) = true := rfl
  have vn : vw S1 (.tup (ns.map nmD)) = .tup (ns.map nmD) := rfl
  by_cases c : (60 : Int) < ((max (toldW (ns ++ [n])).1.length (toldW (ns ++ [n])).2.length : Nat) : Int)
  · refine ⟨ns, some (.tup ((ns ++ [n]).map nmD)), some (pd (toldW (ns ++ [n])).1 (toldW (ns ++ [n])).2), S1, ?_, by omega, h1, h2, d3⟩
    generalize hT : ns ++ [n] = T at *
    generalize hA : (toldW T).1 = A at *
    generalize hB : (toldW T).2 = B at *
    generalize hM : T.map nmD = TM at *
    generalize ns.map nmD = NM at *
    simp only [lNames, exSs, exS, ev, evs, List.getElem?_cons_zero, List.getElem?_cons_succ, eo, d2, bindA_ok, bind_ok, hz, szL]
    simp [lNames, eo, et, d2, nl, hz, a, t, k1, k2, max2v, c]
  · refine ⟨ns ++ [n], some (.tup ((ns ++ [n]).map nmD)), some (pd (toldW (ns ++ [n])).1 (toldW (ns ++ [n])).2), S1, ?_, by simp, by omega, by omega, d3⟩
    generalize hT : ns ++ [n] = T at *
    generalize hA : (toldW T).1 = A at *
    generalize hB : (toldW T).2 = B at *
    generalize hM : T.map nmD = TM at *
    generalize ns.map nmD = NM at *
    simp [lNames, eo, et, d2, nl, hz, a, t, k1, k2, max2v, c]
theorem lnmOk {Fd Fo Ft : Fsem} (ed : Φ "_law_draw" = some Fd) (hd : DrawOk Fd) (eo : Φ "_law_of" = some Fo) (ho : OfOk Fo) (et : Φ "_law_told" = some Ft) (ht : ToOk Ft) : LnmOk (fsem Φ Φf G fuel 2 6 bNames) := by
  intro b most S h0 hb hm
  have t0 := take1 h0
  obtain ⟨r, S1, e1, r0, r1, h1⟩ := hd b ((most : Int) + 1) S h0 (by omega) (by omega) (by omega)
  have hi : itD .rng [.int r] = some (rngL 0 r.toNat) := it_rng1 (in62_of (by omega) (by omega)) rfl
  have key : ∀ n0 : Nat, ∃ ns x y z S', loopN (exSs Φ Φf G fuel n0 lNames) (.one 3) (rngL 0 r.toNat) [some (.loc 0), some (.int most), some (.tup []), none, none, none] S1 = .next [some (.loc 0), some (.int most), some (.tup (ns.map nmD)), x, y, z] S' ∧ ns.length ≤ most ∧ (toldW ns).1.length ≤ 60 ∧ (toldW ns).2.length ≤ 60 ∧ DS (b + 1 + most) S' := by
    intro n0
    refine loop0 (I := fun i Γ S' => ∃ ns x y z, Γ = [some (.loc 0), some (.int most), some (.tup (ns.map nmD)), x, y, z] ∧ ns.length ≤ i ∧ (toldW ns).1.length ≤ 60 ∧ (toldW ns).2.length ≤ 60 ∧ DS (b + 1 + i) S')
      (post := fun q => ∃ ns x y z S', q = .next [some (.loc 0), some (.int most), some (.tup (ns.map nmD)), x, y, z] S' ∧ ns.length ≤ most ∧ (toldW ns).1.length ≤ 60 ∧ (toldW ns).2.length ≤ 60 ∧ DS (b + 1 + most) S')
      ⟨[], none, none, none, rfl, by simp, by simp [toldW], by simp [toldW], h1.mono (by omega)⟩ ?_ ?_
    · rintro i x Γ S' hx ⟨ns, x', y, z, rfl, q1, q2, q3, q4⟩
      obtain ⟨hi, rfl⟩ := rngAt hx
      obtain ⟨ns', y', z', S2, e, p1, p2, p3, p4⟩ := names_body (Φf := Φf) (G := G) (fuel := fuel) (n0 := n0) (m := most) (x := some (.int (0 + (i : Int)))) (y := y) (z := z) eo ho et ht q4 (by omega) (by omega) q2 q3
      exact ⟨_, rfl, .inl ⟨_, S2, e, ns', _, y', z', rfl, by omega, p2, p3, p4.mono (by omega)⟩⟩
    · rintro Γ S' ⟨ns, x', y, z, rfl, q1, q2, q3, q4⟩
      rw [rng_len] at q1 q4
      exact ⟨ns, x', y, z, S', rfl, by omega, q2, q3, q4.mono (by omega)⟩
  obtain ⟨ns, x, y, z, S', e, q1, q2, q3, q4⟩ := key 1
  have t := take1 q4
  refine ⟨ns, S', ?_, q1, q2, q3, q4⟩
  have h0s : 0 ≤ szL := by decide
  simp [bNames, ed, e1, hi, t0.2, e, t.1]
end
end EK

set_option Elab.async false
set_option linter.all false
set_option maxRecDepth 100000
set_option maxHeartbeats 4000000
namespace EK
open PySem L2 PySem.Spec PyProof.Rows
/-! ### the law's pairs -/
def pBent : List CS := [.par [6, 7] [.inl (.call "_law_draw" [.var 0, .con (.int 2)]), .inl (.call "_law_draw" [.var 0, .con (.int 8)])],
  .set (.one 5) (.bin .Add (.bin .Add (.sl (.idx (.var 3) (.var 6)) (.con .non) (.var 7)) (.call "_law_of" [.var 0, .lst [.con (.str [97]), .con (.str [98]), .con (.str [])]])) (.sl (.idx (.var 3) (.var 6)) (.bin .Add (.var 7) (.con (.int 1))) (.con .non))),
  .set (.one 3) (.ite (.cmp .Eq (.var 6) (.con (.int 1))) (.tup [.idx (.var 3) (.con (.int 0)), .var 5]) (.tup [.var 5, .idx (.var 3) (.con (.int 1))]))]
def pTold : List CS := [.set (.one 3) (.call "_law_told" [.call "_law_names" [.var 0, .var 1]]),
  .ite (.cmp .Eq (.var 2) (.con (.int 2))) pBent [],
  .ret (.ite (.and (.cmp .NotEq (.idx (.var 3) (.con (.int 0))) (.con (.str []))) (.cmp .NotEq (.idx (.var 3) (.con (.int 1))) (.con (.str [])))) (.var 3) (.tup [.con (.str [97, 98]), .con (.str [97])]))]
def pPow : List CS := [.set (.one 4) (.bin .Add (.call "_law_near_text" [.var 0, .bin .Add (.con (.int 1)) (.call "_law_draw" [.var 0, .con (.int 5)])]) (.con (.str [97]))),
  .ret (.tup [.bin .Mult (.var 4) (.bin .Add (.con (.int 1)) (.call "_law_draw" [.var 0, .con (.int 3)])), .bin .Mult (.var 4) (.bin .Add (.con (.int 1)) (.call "_law_draw" [.var 0, .con (.int 3)]))])]
def pNear : List CS := [.ret (.tup [.bin .Add (.call "_law_near_text" [.var 0, .bin .Add (.con (.int 1)) (.call "_law_draw" [.var 0, .con (.int 6)])]) (.con (.str [98])), .bin .Add (.call "_law_near_text" [.var 0, .bin .Add (.con (.int 1)) (.call "_law_draw" [.var 0, .con (.int 6)])]) (.con (.str [97]))])]
def pAny : CS := .ret (.tup [.call "_law_letters" [.var 0, .bin .Add (.con (.int 1)) (.call "_law_draw" [.var 0, .con (.int 5)])], .call "_law_letters" [.var 0, .bin .Add (.con (.int 1)) (.call "_law_draw" [.var 0, .con (.int 5)])]])
def bPair : List CS := [.set (.one 2) (.call "_law_draw" [.var 0, .con (.int 6)]), .ite (.cmp .Lt (.var 2) (.con (.int 3))) pTold [], .ite (.cmp .Eq (.var 2) (.con (.int 3))) pPow [], .ite (.cmp .Eq (.var 2) (.con (.int 4))) pNear [], pAny]
def LpOk (F : Fsem) : Prop := ∀ (b : Int) (most : Nat) (S : Sto), DS b S → b < 2 ^ 38 → most ≤ 16 → ∃ u v S', F [.loc 0, .int most] S = .ok (pd u v) S' ∧ Rp u v ∧ DS (b + 1100) S'
theorem wd_app {u v : List Nat} (hu : Wd u) (hv : Wd v) : Wd (u ++ v) := fun c h => (List.mem_append.mp h).elim (hu c) (hv c)
theorem wd_take {u : List Nat} (hu : Wd u) (n : Nat) : Wd (u.take n) := fun c h => hu c (List.mem_of_mem_take h)
theorem wd_drop {u : List Nat} (hu : Wd u) (n : Nat) : Wd (u.drop n) := fun c h => hu c (List.mem_of_mem_drop h)
theorem wd_rep {u : List Nat} (hu : Wd u) (n : Nat) : Wd (List.replicate n u).flatten := fun c h => by
  obtain ⟨l, h1, h2⟩ := List.mem_flatten.mp h
  rw [(List.mem_replicate.mp h1).2] at h2
  exact hu c h2
theorem rep_len (u : List Nat) (n : Nat) : (List.replicate n u).flatten.length = n * u.length := by
  rw [List.length_flatten, List.map_replicate, List.sum_replicate_nat]
theorem mul_str {u : List Nat} {n : Int} {k : Nat} (hk : n = k) (h1 : 1 ≤ k) (h2 : k ≤ 1000) (hu : u.length ≤ 10000) : mulD (.str u) (.int n) = some (.str (List.replicate k u).flatten) := by
  show (if n < 1 then (if in62 n = true then some (D.str []) else none) else if u.length * n.toNat ≤ szL ∧ n.toNat < 2147483648 then some (D.str (List.replicate n.toNat u).flatten) else none) = _
  have e : n.toNat = k := by omega
  rw [if_neg (by omega), e, if_pos]
  refine ⟨?_, by omega⟩
  have : u.length * k ≤ 10000 * 1000 := Nat.mul_le_mul hu h2
  show _ ≤ 16777216
  omega
section
variable {Φ Φf : Str → Option Fsem} {G : Str → Option D} {fuel : Nat}
theorem pow_ok {Fd Fn : Fsem} (ed : Φ "_law_draw" = some Fd) (hd : DrawOk Fd) (en : Φ "_law_near_text" = some Fn) (hn : NtOk Fn) {b : Int} {S : Sto} {n0 : Nat} {x1 x2 x3 x4 x5 x6 x7 : Option D} (h0 : DS b S) (hb : b ≤ 2 ^ 38) :
    ∃ u v S', exSs Φ Φf G fuel n0 pPow [some (.loc 0), x1, x2, x3, x4, x5, x6, x7] S = .ret (pd u v) S' false ∧ Rp u v ∧ DS (b + 1000) S' := by
  obtain ⟨r, S1, e1, r0, r1, h1⟩ := hd b 5 S h0 (by omega) (by omega) (by omega)
  obtain ⟨k, rfl⟩ := Int.eq_ofNat_of_zero_le r0
  have ek : (1 : Int) + (k : Int) = ((1 + k : Nat) : Int) := by omega
  obtain ⟨w, S2, e2, w1, w2, h2⟩ := hn (b + 1) (1 + k) S1 h1 (by omega) (by omega)
  obtain ⟨p, S3, e3, p0, p1, h3⟩ := hd (b + 1 + 500) 3 S2 h2 (by omega) (by omega) (by omega)
  obtain ⟨q, S4, e4, q0, q1, h4⟩ := hd (b + 1 + 500 + 1) 3 S3 h3 (by omega) (by omega) (by omega)
  obtain ⟨i, rfl⟩ := Int.eq_ofNat_of_zero_le p0
  obtain ⟨j, rfl⟩ := Int.eq_ofNat_of_zero_le q0
  have a := add_str (s := w) (t := [97]) (by show w.length + 1 ≤ 16777216; omega)
  have ww : Wd (w ++ [97]) := wd_app w1 (wdB_ok rfl)
  have wl : (w ++ [97]).length = w.length + 1 := by simp
  have m1 := mul_str (u := w ++ [97]) (n := 1 + (i : Int)) (k := 1 + i) (by omega) (by omega) (by omega) (by omega)
  have m2 := mul_str (u := w ++ [97]) (n := 1 + (j : Int)) (k := 1 + j) (by omega) (by omega) (by omega) (by omega)
  refine ⟨_, _, S4, ?_, ⟨wd_rep ww (1 + i), wd_rep ww (1 + j), ?_, ?_, ?_, ?_⟩, h4.mono (by omega)⟩
  · generalize w ++ [97] = W at *
    simp only [pPow, exSs, exS, ev, evs, List.getElem?_cons_zero, List.getElem?_cons_succ, ed, en, e1, bindA_ok, bind_ok, binD, vw_int, vw_str, add_int, lift_some, ek, e2, a, go_ok, setTg, then_next, List.set_cons_zero, List.set_cons_succ, e3, e4, m1, m2]
    simp [szL]
  all_goals rw [rep_len, wl]
  · have : 1 * 1 ≤ (1 + i) * (w.length + 1) := Nat.mul_le_mul (by omega) (by omega)
    omega
  · have : (1 + i) * (w.length + 1) ≤ 3 * 8 := Nat.mul_le_mul (by omega) (by omega)
    omega
  · have : 1 * 1 ≤ (1 + j) * (w.length + 1) := Nat.mul_le_mul (by omega) (by omega)
    omega
  · have : (1 + j) * (w.length + 1) ≤ 3 * 8 := Nat.mul_le_mul (by omega) (by omega)
    omega
theorem near_ok {Fd Fn : Fsem} (ed : Φ "_law_draw" = some Fd) (hd : DrawOk Fd) (en : Φ "_law_near_text" = some Fn) (hn : NtOk Fn) {b : Int} {S : Sto} {n0 : Nat} {x1 x2 x3 x4 x5 x6 x7 : Option D} (h0 : DS b S) (hb : b ≤ 2 ^ 38) :
    ∃ u v S', exSs Φ Φf G fuel n0 pNear [some (.loc 0), x1, x2, x3, x4, x5, x6, x7] S = .ret (pd u v) S' false ∧ Rp u v ∧ DS (b + 1002) S' := by
  obtain ⟨r, S1, e1, r0, r1, h1⟩ := hd b 6 S h0 (by omega) (by omega) (by omega)
  obtain ⟨k, rfl⟩ := Int.eq_ofNat_of_zero_le r0
  have ek : (1 : Int) + (k : Int) = ((1 + k : Nat) : Int) := by omega
  obtain ⟨w, S2, e2, w1, w2, h2⟩ := hn (b + 1) (1 + k) S1 h1 (by omega) (by omega)
  obtain ⟨p, S3, e3, p0, p1, h3⟩ := hd (b + 1 + 500) 6 S2 h2 (by omega) (by omega) (by omega)
  obtain ⟨i, rfl⟩ := Int.eq_ofNat_of_zero_le p0
  have ei : (1 : Int) + (i : Int) = ((1 + i : Nat) : Int) := by omega
  obtain ⟨z, S4, e4, z1, z2, h4⟩ := hn (b + 1 + 500 + 1) (1 + i) S3 h3 (by omega) (by omega)
  have a1 := add_str (s := w) (t := [98]) (by show w.length + 1 ≤ 16777216; omega)
  have a2 := add_str (s := z) (t := [97]) (by show z.length + 1 ≤ 16777216; omega)
  refine ⟨w ++ [98], z ++ [97], S4, ?_, ⟨wd_app w1 (wdB_ok rfl), wd_app z1 (wdB_ok rfl), by simp, by simp; omega, by simp, by simp; omega⟩, h4.mono (by omega)⟩
  simp only [pNear, exSs, exS, ev, evs, List.getElem?_cons_zero, List.getElem?_cons_succ, ed, en, e1, bindA_ok, bind_ok, binD, vw_int, vw_str, add_int, lift_some, ek, e2, a1, go_ok, e3, ei, e4, a2]
  simp [szL]
theorem any_ok {Fd Fl : Fsem} (ed : Φ "_law_draw" = some Fd) (hd : DrawOk Fd) (el : Φ "_law_letters" = some Fl) (hl : LtOk Fl) {b : Int} {S : Sto} {n0 : Nat} {x1 x2 x3 x4 x5 x6 x7 : Option D} (h0 : DS b S) (hb : b ≤ 2 ^ 38) :
    ∃ u v S', exS Φ Φf G fuel n0 pAny [some (.loc 0), x1, x2, x3, x4, x5, x6, x7] S = .ret (pd u v) S' false ∧ Rp u v ∧ DS (b + 12) S' := by
  obtain ⟨r, S1, e1, r0, r1, h1⟩ := hd b 5 S h0 (by omega) (by omega) (by omega)
  obtain ⟨k, rfl⟩ := Int.eq_ofNat_of_zero_le r0
  have ek : (1 : Int) + (k : Int) = ((1 + k : Nat) : Int) := by omega
  obtain ⟨w, S2, e2, w1, w2, h2⟩ := hl (b + 1) (1 + k) S1 h1 (by omega) (by omega)
  obtain ⟨p, S3, e3, p0, p1, h3⟩ := hd _ 5 S2 h2 (by omega) (by omega) (by omega)
  obtain ⟨i, rfl⟩ := Int.eq_ofNat_of_zero_le p0
  have ei : (1 : Int) + (i : Int) = ((1 + i : Nat) : Int) := by omega
  obtain ⟨z, S4, e4, z1, z2, h4⟩ := hl _ (1 + i) S3 h3 (by omega) (by omega)
  refine ⟨w, z, S4, ?_, ⟨w1, z1, by omega, by omega, by omega, by omega⟩, h4.mono (by omega)⟩
  simp only [pAny, exS, ev, evs, List.getElem?_cons_zero, List.getElem?_cons_succ, ed, el, e1, bindA_ok, bind_ok, binD, vw_int, vw_str, add_int, lift_some, ek, e2, go_ok, e3, ei, e4]
  simp [szL]
theorem bent_len {T c : List Nat} {s : Nat} (hT : T.length ≤ 60) (hc : c.length ≤ 1) (hs : s < 8) : (T.take s ++ c ++ T.drop (s + 1)).length ≤ 60 := by
  rw [List.length_append, List.length_append, List.length_take, List.length_drop]
  omega
theorem bent_ok {Fd Fo : Fsem} (ed : Φ "_law_draw" = some Fd) (hd : DrawOk Fd) (eo : Φ "_law_of" = some Fo) (ho : OfOk Fo) {b : Int} {S : Sto} {n0 : Nat} {x1 x2 x4 x5 x6 x7 : Option D} {A B : List Nat} (h0 : DS b S) (hb : b < 2 ^ 40) (wA : Wd A) (wB : Wd B) (lA : A.length ≤ 60) (lB : B.length ≤ 60) :
    ∃ A' B' y5 y6 y7 S', exSs Φ Φf G fuel n0 pBent [some (.loc 0), x1, x2, some (pd A B), x4, x5, x6, x7] S = .next [some (.loc 0), x1, x2, some (pd A' B'), x4, y5, y6, y7] S' ∧ Wd A' ∧ Wd B' ∧ A'.length ≤ 60 ∧ B'.length ≤ 60 ∧ DS (b + 3) S' := by
  have hz : szL = 16777216 := rfl
  obtain ⟨r, S1, e1, r0, r1, h1⟩ := hd b 2 S h0 (by omega) (by omega) (by omega)
  obtain ⟨p, S2, e2, p0, p1, h2⟩ := hd (b + 1) 8 S1 h1 (by omega) (by omega) (by omega)
  obtain ⟨s, rfl⟩ := Int.eq_ofNat_of_zero_le p0
  obtain ⟨x, S3, c1, c2, h3⟩ := ho.1 (b + 1 + 1) [.str [97], .str [98], .str []] S2 h2 (by omega) (by simp) (by simp) (by simp)
  obtain ⟨c, rfl, wc, lc⟩ : ∃ c : List Nat, x = .str c ∧ Wd c ∧ c.length ≤ 1 := by
    simp only [List.mem_cons, List.not_mem_nil, or_false] at c1
    rcases c1 with rfl | rfl | rfl
    · exact ⟨_, rfl, wdB_ok rfl, by simp⟩
    · exact ⟨_, rfl, wdB_ok rfl, by simp⟩
    · exact ⟨_, rfl, wdB_ok rfl, by simp⟩
  have main : ∀ T : List Nat, T.length ≤ 60 → slD (.str T) none (some (s : Int)) = some (.str (T.take s)) ∧ slD (.str T) (some ((s : Int) + 1)) none = some (.str (T.drop (s + 1))) ∧ addD (.str (T.take s)) (.str c) = some (.str (T.take s ++ c)) ∧ addD (.str (T.take s ++ c)) (.str (T.drop (s + 1))) = some (.str (T.take s ++ c ++ T.drop (s + 1))) := by
    intro T hT
    have l := bent_len (T := T) (c := c) (s := s) hT lc (by omega)
    rw [List.length_append] at l
    have l2 := l
    rw [List.length_append] at l2
    exact ⟨sl_to (by omega) rfl, sl_from (by omega) (by omega), add_str (by omega), add_str (by omega)⟩
  have hr : r = 0 ∨ r = 1 := by omega
  rcases hr with rfl | rfl
  · obtain ⟨m1, m2, m3, m4⟩ := main A lA
    have wn : Wd (A.take s ++ c ++ A.drop (s + 1)) := wd_app (wd_app (wd_take wA _) wc) (wd_drop wA _)
    have ln := bent_len (T := A) (c := c) (s := s) lA lc (by omega)
    refine ⟨A.take s ++ c ++ A.drop (s + 1), B, some (.str (A.take s ++ c ++ A.drop (s + 1))), some (.int 0), some (.int s), S3, ?_, wn, wB, ln, lB, h3.mono (by omega)⟩
    generalize A.take s ++ c ++ A.drop (s + 1) = N at *
    simp [pBent, ed, eo, e1, e2, c2, hz, m1, m2, m3, m4]
  · obtain ⟨m1, m2, m3, m4⟩ := main B lB
    have wn : Wd (B.take s ++ c ++ B.drop (s + 1)) := wd_app (wd_app (wd_take wB _) wc) (wd_drop wB _)
    have ln := bent_len (T := B) (c := c) (s := s) lB lc (by omega)
    refine ⟨A, B.take s ++ c ++ B.drop (s + 1), some (.str (B.take s ++ c ++ B.drop (s + 1))), some (.int 1), some (.int s), S3, ?_, wA, wn, lA, ln, h3.mono (by omega)⟩
    generalize B.take s ++ c ++ B.drop (s + 1) = N at *
    simp [pBent, ed, eo, e1, e2, c2, hz, m1, m2, m3, m4]
theorem ne_str {s t : List Nat} : cmpD .NotEq (.str s) (.str t) = some (.bl (!decide (s = t))) := rfl
theorem ret_ok {S : Sto} {n0 : Nat} {x0 x1 x2 x4 x5 x6 x7 : Option D} {A B : List Nat} (wA : Wd A) (wB : Wd B) (lA : A.length ≤ 60) (lB : B.length ≤ 60) :
    ∃ u v, exS Φ Φf G fuel n0 (.ret (.ite (.and (.cmp .NotEq (.idx (.var 3) (.con (.int 0))) (.con (.str []))) (.cmp .NotEq (.idx (.var 3) (.con (.int 1))) (.con (.str [])))) (.var 3) (.tup [.con (.str [97, 98]), .con (.str [97])]))) [x0, x1, x2, some (pd A B), x4, x5, x6, x7] S = .ret (pd u v) S false ∧ Rp u v := by
  have r0 : Rp [97, 98] [97] := ⟨wdB_ok rfl, wdB_ok rfl, by decide, by decide, by decide, by decide⟩
  by_cases hA : A = []
  · refine ⟨[97, 98], [97], ?_, r0⟩
    simp [ne_str, hA, szL]
  · by_cases hB : B = []
    · refine ⟨[97, 98], [97], ?_, r0⟩
      simp [ne_str, hA, hB, szL]
    · refine ⟨A, B, ?_, ⟨wA, wB, List.length_pos_iff.mpr hA, lA, List.length_pos_iff.mpr hB, lB⟩⟩
      simp [ne_str, hA, hB]
theorem told_ok {Fd Fo Ft Fn : Fsem} (ed : Φ "_law_draw" = some Fd) (hd : DrawOk Fd) (eo : Φ "_law_of" = some Fo) (ho : OfOk Fo) (et : Φ "_law_told" = some Ft) (ht : ToOk Ft) (en : Φ "_law_names" = some Fn) (hn : LnmOk Fn) {b : Int} {S : Sto} {n0 most : Nat} {w : Int} {x3 x4 x5 x6 x7 : Option D} (h0 : DS b S) (hb : b ≤ 2 ^ 38) (hm : most ≤ 16) :
    ∃ u v S', exSs Φ Φf G fuel n0 pTold [some (.loc 0), some (.int most), some (.int w), x3, x4, x5, x6, x7] S = .ret (pd u v) S' false ∧ Rp u v ∧ DS (b + 30) S' := by
  obtain ⟨ns, S1, e1, n1, l1, l2, h1⟩ := hn b most S h0 (by omega) hm
  have t := ht ns S1 (by omega)
  obtain ⟨w1, w2, _, _⟩ := told_wd ns
  have s1 : exS Φ Φf G fuel n0 (.set (.one 3) (.call "_law_told" [.call "_law_names" [.var 0, .var 1]])) [some (.loc 0), some (.int most), some (.int w), x3, x4, x5, x6, x7] S = .next [some (.loc 0), some (.int most), some (.int w), some (pd (toldW ns).1 (toldW ns).2), x4, x5, x6, x7] S1 := by
    simp [et, en, e1, t]
  unfold pTold
  by_cases c : w = 2
  · obtain ⟨A, B, y5, y6, y7, S2, e2, q1, q2, q3, q4, h2⟩ := bent_ok (Φf := Φf) (G := G) (fuel := fuel) (n0 := n0) (x1 := some (.int most)) (x2 := some (.int w)) (x4 := x4) (x5 := x5) (x6 := x6) (x7 := x7) ed hd eo ho h1 (by omega) w1 w2 l1 l2
    obtain ⟨u, v, e3, r⟩ := ret_ok (Φ := Φ) (Φf := Φf) (G := G) (fuel := fuel) (S := S2) (n0 := n0) (x0 := some (.loc 0)) (x1 := some (.int most)) (x2 := some (.int w)) (x4 := x4) (x5 := y5) (x6 := y6) (x7 := y7) q1 q2 q3 q4
    refine ⟨u, v, S2, ?_, r, h2.mono (by omega)⟩
    have s2 : exS Φ Φf G fuel n0 (.ite (.cmp .Eq (.var 2) (.con (.int 2))) pBent []) [some (.loc 0), some (.int most), some (.int w), some (pd (toldW ns).1 (toldW ns).2), x4, x5, x6, x7] S1 = .next [some (.loc 0), some (.int most), some (.int w), some (pd A B), x4, y5, y6, y7] S2 := by
      rw [← e2]
      simp only [exS, ev, List.getElem?_cons_zero, List.getElem?_cons_succ, bind_ok, vw_int, cmp_eqI, lift_some, go_ok, c, decide_true]
    rw [exSs, s1, then_next, exSs, s2, then_next, exSs, e3, then_ret]
  · obtain ⟨u, v, e3, r⟩ := ret_ok (Φ := Φ) (Φf := Φf) (G := G) (fuel := fuel) (S := S1) (n0 := n0) (x0 := some (.loc 0)) (x1 := some (.int most)) (x2 := some (.int w)) (x4 := x4) (x5 := x5) (x6 := x6) (x7 := x7) w1 w2 l1 l2
    refine ⟨u, v, S1, ?_, r, h1.mono (by omega)⟩
    have s2 : exS Φ Φf G fuel n0 (.ite (.cmp .Eq (.var 2) (.con (.int 2))) pBent []) [some (.loc 0), some (.int most), some (.int w), some (pd (toldW ns).1 (toldW ns).2), x4, x5, x6, x7] S1 = .next [some (.loc 0), some (.int most), some (.int w), some (pd (toldW ns).1 (toldW ns).2), x4, x5, x6, x7] S1 := by
      simp only [exS, ev, List.getElem?_cons_zero, List.getElem?_cons_succ, bind_ok, vw_int, cmp_eqI, lift_some, go_ok, decide_eq_false c, exSs]
    rw [exSs, s1, then_next, exSs, s2, then_next, exSs, e3, then_ret]
theorem lpOk {Fd Fo Ft Fm Fn Fl : Fsem} (ed : Φ "_law_draw" = some Fd) (hd : DrawOk Fd) (eo : Φ "_law_of" = some Fo) (ho : OfOk Fo) (et : Φ "_law_told" = some Ft) (ht : ToOk Ft) (em : Φ "_law_names" = some Fm) (hm : LnmOk Fm) (en : Φ "_law_near_text" = some Fn) (hn : NtOk Fn) (el : Φ "_law_letters" = some Fl) (hl : LtOk Fl) : LpOk (fsem Φ Φf G fuel 2 8 bPair) := by
  intro b most S h0 hb hmo
  have t0 := take1 h0
  obtain ⟨w, S1, e1, r0, r1, h1⟩ := hd b 6 S h0 (by omega) (by omega) (by omega)
  have s1 : exS Φ Φf G fuel 1 (.set (.one 2) (.call "_law_draw" [.var 0, .con (.int 6)])) [some (.loc 0), some (.int most), none, none, none, none, none, none] S = .next [some (.loc 0), some (.int most), some (.int w), none, none, none, none, none] S1 := by
    simp [ed, e1]
  have main : ∃ u v S', exSs Φ Φf G fuel 1 bPair [some (.loc 0), some (.int most), none, none, none, none, none, none] S = .ret (pd u v) S' false ∧ Rp u v ∧ DS (b + 1100) S' := by
    unfold bPair
    rw [exSs, s1, then_next]
    by_cases c1 : w < 3
    · obtain ⟨u, v, S', e, r, h⟩ := told_ok (Φf := Φf) (G := G) (fuel := fuel) (n0 := 1) (w := w) (x3 := none) (x4 := none) (x5 := none) (x6 := none) (x7 := none) ed hd eo ho et ht em hm h1 (by omega) hmo
      refine ⟨u, v, S', ?_, r, h.mono (by omega)⟩
      simp only [exSs, exS, ev, List.getElem?_cons_zero, List.getElem?_cons_succ, bind_ok, vw_int, cmp_lt, lift_some, go_ok, decide_eq_true c1]
      rw [e]; rfl
    · by_cases c2 : w = 3
      · obtain ⟨u, v, S', e, r, h⟩ := pow_ok (Φf := Φf) (G := G) (fuel := fuel) (n0 := 1) (x1 := some (.int most)) (x2 := some (.int w)) (x3 := none) (x4 := none) (x5 := none) (x6 := none) (x7 := none) ed hd en hn h1 (by omega)
        refine ⟨u, v, S', ?_, r, h.mono (by omega)⟩
        simp only [exSs, exS, ev, List.getElem?_cons_zero, List.getElem?_cons_succ, bind_ok, vw_int, cmp_lt, cmp_eqI, lift_some, go_ok, decide_eq_false c1, decide_eq_true c2, then_next]
        rw [e]; rfl
      · by_cases c3 : w = 4
        · obtain ⟨u, v, S', e, r, h⟩ := near_ok (Φf := Φf) (G := G) (fuel := fuel) (n0 := 1) (x1 := some (.int most)) (x2 := some (.int w)) (x3 := none) (x4 := none) (x5 := none) (x6 := none) (x7 := none) ed hd en hn h1 (by omega)
          refine ⟨u, v, S', ?_, r, h.mono (by omega)⟩
          simp only [exSs, exS, ev, List.getElem?_cons_zero, List.getElem?_cons_succ, bind_ok, vw_int, cmp_lt, cmp_eqI, lift_some, go_ok, decide_eq_false c1, decide_eq_false c2, decide_eq_true c3, then_next]
          rw [e]; rfl
        · obtain ⟨u, v, S', e, r, h⟩ := any_ok (Φf := Φf) (G := G) (fuel := fuel) (n0 := 1) (x1 := some (.int most)) (x2 := some (.int w)) (x3 := none) (x4 := none) (x5 := none) (x6 := none) (x7 := none) ed hd el hl h1 (by omega)
          refine ⟨u, v, S', ?_, r, h.mono (by omega)⟩
          simp only [exSs, exS, ev, List.getElem?_cons_zero, List.getElem?_cons_succ, bind_ok, vw_int, cmp_lt, cmp_eqI, lift_some, go_ok, decide_eq_false c1, decide_eq_false c2, decide_eq_false c3, then_next]
          rw [e]; rfl
  obtain ⟨u, v, S', e, r, h⟩ := main
  have t := take1 h
  refine ⟨u, v, S', ?_, r, h⟩
  unfold fsem
  rw [if_pos (show [D.loc 0, D.int (most : Int)].length = 2 from rfl), t0.2]
  have g : gam0 8 [D.loc 0, .int (most : Int)] = [some (.loc 0), some (.int most), none, none, none, none, none, none] := rfl
  rw [g, e, outR_ret, t.1]
  rfl
end
end EK

set_option Elab.async false
set_option linter.all false
set_option maxRecDepth 100000
set_option maxHeartbeats 4000000
namespace EK
open PySem L2 PySem.Spec PyProof.Rows
/-! ### data that is compared and told -/
mutual
/-- data of at most n levels, its texts of plain signs, its ints not too long -/
def okD : Nat → D → Bool
  | _, .non => true
  | _, .bl _ => true
  | _, .int i => decide (i.natAbs < 10 ^ 180)
  | _, .str s => s.all fun c => decide (c < 128)
  | 0, .tup xs => xs.isEmpty
  | n + 1, .tup xs => okA n xs
  | 0, .lst xs => xs.isEmpty
  | n + 1, .lst xs => okA n xs
  | _, _ => false
def okA : Nat → List D → Bool
  | _, [] => true
  | n, x :: xs => okD n x && okA n xs
end
mutual
def wtD : D → Nat
  | .int _ => 600
  | .str s => s.length
  | .tup xs => wtA xs
  | .lst xs => wtA xs
  | _ => 0
def wtA : List D → Nat
  | [] => 0
  | x :: xs => wtD x + 1 + wtA xs
end
theorem okI_log {i : Int} (h : i.natAbs < 10 ^ 180) : i.natAbs.log2 < 600 := by
  by_cases z : i.natAbs = 0
  · rw [z]; decide
  · rw [Nat.log2_lt z]
    exact Nat.lt_trans h (by decide +kernel)
theorem okI_len {i : Int} (h : i.natAbs < 10 ^ 180) : (PyData.shown (.int i)).length ≤ 200 := by
  have e := int_text_length_le10 (k := 180) (by decide) h
  show (Str.ofString (toString i)).length ≤ 200
  rw [PySem.ofString_length]
  exact Nat.le_trans e (by decide)
structure Ok1 (n : Nat) (d : D) (p : PyData) : Prop where
  e : py d = some p
  lay : p.canLay0 = true
  dep : p.depth ≤ n + 1
  sh : p.showable = true
  lv : p.leavesShort 200 = true
  wt : p.weight ≤ wtD d
structure OkL (n : Nat) (ds : List D) (ps : List PyData) : Prop where
  e : pyA ds = some ps
  lay : PyData.canLayAll0 ps = true
  dep : PyData.depthAll ps ≤ n + 1
  sh : PyData.showableAll ps = true
  lv : PyData.leavesShortAll 200 ps = true
  wt : PyData.weightAll ps ≤ wtA ds
mutual
theorem ok1 : ∀ {n : Nat} {d : D}, okD n d = true → ∃ p, Ok1 n d p
  | n, .non, _ => ⟨.none, rfl, rfl, by simp [PyData.depth], rfl, rfl, by simp [PyData.weight]⟩
  | n, .bl b, _ => ⟨.bool b, rfl, rfl, by simp [PyData.depth], rfl, rfl, by simp [PyData.weight]⟩
  | n, .int i, h => by
    have h : i.natAbs < 10 ^ 180 := by cases n <;> exact of_decide_eq_true h
    have hl := okI_log h
    refine ⟨.int i, rfl, rfl, by simp [PyData.depth], ?_, ?_, ?_⟩
    · show decide (i.natAbs.log2 < 1920) = true
      rw [decide_eq_true_iff]; omega
    · show decide ((PyData.shown (.int i)).length ≤ 200) = true
      rw [decide_eq_true_iff]; exact okI_len h
    · show (if i == 0 then 0 else i.natAbs.log2 + 1) ≤ 600
      split <;> omega
  | n, .str s, h => by
    have h : s.all (fun c => decide (c < 128)) = true := by cases n <;> exact h
    have h2 : ∀ c ∈ s, c < 128 := fun c hc => of_decide_eq_true (List.all_eq_true.mp h c hc)
    refine ⟨.str ⟨s.toArray⟩, rfl, ?_, by simp [PyData.depth], rfl, ?_, ?_⟩
    · show (s.toArray.all fun c => decide (c < 0x110000)) = true
      rw [List.all_toArray, List.all_eq_true]
      intro c hc
      have := h2 c hc
      rw [decide_eq_true_iff]; omega
    · show (s.toArray.toList.all fun c => decide (c < 16 ^ 8)) = true
      rw [List.all_eq_true]
      intro c hc
      have := h2 c (by simpa using hc)
      rw [decide_eq_true_iff]
      exact Nat.lt_trans this (by decide)
    · show s.toArray.size ≤ s.length
      simp
  | 0, .tup xs, h => by
    have h : xs.isEmpty = true := h
    rw [List.isEmpty_iff] at h
    subst h
    exact ⟨.tuple [], rfl, rfl, by simp [PyData.depth, PyData.depthAll], rfl, rfl, by simp [PyData.weight, PyData.weightAll]⟩
  | 0, .lst xs, h => by
    have h : xs.isEmpty = true := h
    rw [List.isEmpty_iff] at h
    subst h
    exact ⟨.list [], rfl, rfl, by simp [PyData.depth, PyData.depthAll], rfl, rfl, by simp [PyData.weight, PyData.weightAll]⟩
  | n + 1, .tup xs, h => by
    obtain ⟨ps, o⟩ := okL (n := n) (ds := xs) h
    refine ⟨.tuple ps, ?_, ?_, ?_, ?_, ?_, ?_⟩
    · rw [py, o.e]; rfl
    · rw [PyData.canLay0]; exact o.lay
    · rw [PyData.depth]; have := o.dep; omega
    · rw [PyData.showable]; exact o.sh
    · rw [PyData.leavesShort]; exact o.lv
    · rw [PyData.weight, wtD]; exact o.wt
  | n + 1, .lst xs, h => by
    obtain ⟨ps, o⟩ := okL (n := n) (ds := xs) h
    refine ⟨.list ps, ?_, ?_, ?_, ?_, ?_, ?_⟩
    · rw [py, o.e]; rfl
    · rw [PyData.canLay0]; exact o.lay
    · rw [PyData.depth]; have := o.dep; omega
    · rw [PyData.showable]; exact o.sh
    · rw [PyData.leavesShort]; exact o.lv
    · rw [PyData.weight, wtD]; exact o.wt
  | 0, .dic _, h => by cases h
  | _ + 1, .dic _, h => by cases h
  | 0, .fn _, h => by cases h
  | _ + 1, .fn _, h => by cases h
  | 0, .loc _, h => by cases h
  | _ + 1, .loc _, h => by cases h
  | 0, .frz _, h => by cases h
  | _ + 1, .frz _, h => by cases h
theorem okL : ∀ {n : Nat} {ds : List D}, okA n ds = true → ∃ ps, OkL n ds ps
  | n, [], _ => ⟨[], rfl, rfl, by simp [PyData.depthAll], rfl, rfl, by simp [PyData.weightAll]⟩
  | n, d :: ds, h => by
    rw [okA, Bool.and_eq_true] at h
    obtain ⟨p, o⟩ := ok1 h.1
    obtain ⟨ps, q⟩ := okL h.2
    refine ⟨p :: ps, ?_, ?_, ?_, ?_, ?_, ?_⟩
    · rw [pyA, o.e, q.e]
    · rw [PyData.canLayAll0, o.lay, q.lay]; rfl
    · rw [PyData.depthAll]; have := o.dep; have := q.dep; omega
    · rw [PyData.showableAll, o.sh, q.sh]; rfl
    · rw [PyData.leavesShortAll, o.lv, q.lv]; rfl
    · rw [PyData.weightAll, wtA]; have := o.wt; have := q.wt; omega
end
/-- the text of data -/
def rpT (d : D) : List Nat := match py d with
  | some p => shownL p
  | none => []
theorem rp_ok {n : Nat} {d : D} (h : okD n d = true) (hn : n ≤ 50) (hw : wtD d ≤ 70000) : reprD [d] = some (.str (rpT d)) := by
  obtain ⟨p, o⟩ := ok1 h
  have hs := PyData.shown_le 200 (by decide) p o.lv
  have hl : (shownL p).length = p.shown.length := by unfold shownL; simp [Str.length]
  have e2 : rpT d = shownL p := by unfold rpT; rw [o.e]
  rw [e2]
  show (match py d with | some p => if PyData.showable p = true ∧ dep60 p = true ∧ (shownL p).length ≤ szL then some (D.str (shownL p)) else none | none => none) = _
  rw [o.e]
  dsimp only
  rw [if_pos]
  refine ⟨o.sh, ?_, ?_⟩
  · exact Nat.ble_eq_true_of_le (Nat.le_trans o.dep (by omega))
  · rw [hl]
    have := o.wt
    show _ ≤ 16777216
    have : (200 + 2) * p.weight ≤ 202 * 70000 := Nat.mul_le_mul_left _ (by omega)
    omega
theorem eq_ok {n : Nat} {d : D} (h : okD n d = true) (hn : n ≤ 50) : eqB d d = some true := by
  obtain ⟨p, o⟩ := ok1 h
  have sh : SeqAt.shaped p = true := by
    unfold SeqAt.shaped
    rw [Bool.and_eq_true, decide_eq_true_iff]
    exact ⟨o.lay, Nat.le_trans o.dep (by omega)⟩
  cases d with
  | int i => show some (decide (i = i)) = _; simp
  | str s => show some (decide (s = s)) = _; simp
  | bl b => show some (decide (b = b)) = _; simp
  | non => rfl
  | tup xs =>
    show (match py (.tup xs), py (.tup xs) with | some p, some q => if SeqAt.shaped p = true ∧ SeqAt.shaped q = true then some (PyData.eqv p q) else none | _, _ => none) = _
    rw [o.e]
    dsimp only
    rw [if_pos ⟨sh, sh⟩, PySem.SeqAt.eqv_refl p o.lay]
  | lst xs =>
    show (match py (.lst xs), py (.lst xs) with | some p, some q => if SeqAt.shaped p = true ∧ SeqAt.shaped q = true then some (PyData.eqv p q) else none | _, _ => none) = _
    rw [o.e]
    dsimp only
    rw [if_pos ⟨sh, sh⟩, PySem.SeqAt.eqv_refl p o.lay]
  | _ => cases n <;> cases h
theorem ceq_ok {n : Nat} {d : D} (h : okD n d = true) (hn : n ≤ 50) : cmpD .Eq d d = some (.bl true) := by
  show (eqB d d).map _ = _
  rw [eq_ok h hn]; rfl
theorem cne_ok {n : Nat} {d : D} (h : okD n d = true) (hn : n ≤ 50) : cmpD .NotEq d d = some (.bl false) := by
  show (eqB d d).map _ = _
  rw [eq_ok h hn]; rfl
theorem okD_str {n : Nat} {w : List Nat} (h : Wd w) : okD n (.str w) = true := by
  have : (w.all fun c => decide (c < 128)) = true := by
    rw [List.all_eq_true]
    intro c hc
    rw [decide_eq_true_iff]
    rcases h c hc with rfl | rfl <;> omega
  cases n <;> exact this
theorem okD_pd {n : Nat} {u v : List Nat} (hu : Wd u) (hv : Wd v) : okD (n + 1) (pd u v) = true := by
  show (okD n (.str u) && (okD n (.str v) && true)) = true
  rw [okD_str hu, okD_str hv]; rfl
theorem addL {xs ys : List D} (h : xs.length + ys.length ≤ szL) : addD (.lst xs) (.lst ys) = some (.lst (xs ++ ys)) := by
  show (if xs.length + ys.length ≤ szL then some (D.lst (xs ++ ys)) else none) = _
  rw [if_pos h]
end EK

set_option Elab.async false
set_option linter.all false
set_option maxRecDepth 100000
set_option maxHeartbeats 4000000
namespace EK
open PySem L2 PySem.Spec PyProof.Rows
/-! ### == of data is equality, where no bool is among it -/
mutual
def noB : D → Bool
  | .non => true
  | .int _ => true
  | .str _ => true
  | .tup xs => noBA xs
  | .lst xs => noBA xs
  | _ => false
def noBA : List D → Bool
  | [] => true
  | x :: xs => noB x && noBA xs
end
mutual
theorem eqv_iff : ∀ {d e : D} {p q : PyData}, py d = some p → py e = some q → noB d = true → noB e = true → (PyData.eqv p q = true ↔ d = e)
  | .non, e, p, q, h1, h2, b1, b2 => by
    cases h1
    cases e with
    | non => cases h2; simp [PyData.eqv]
    | int j => cases h2; simp [PyData.eqv]
    | str j => cases h2; simp [PyData.eqv]
    | tup ys => rw [py] at h2; cases e2 : pyA ys with | none => rw [e2] at h2; cases h2 | some qs => rw [e2] at h2; cases h2; simp [PyData.eqv]
    | lst ys => rw [py] at h2; cases e2 : pyA ys with | none => rw [e2] at h2; cases h2 | some qs => rw [e2] at h2; cases h2; simp [PyData.eqv]
    | _ => cases b2
  | .int i, e, p, q, h1, h2, b1, b2 => by
    cases h1
    cases e with
    | non => cases h2; simp [PyData.eqv]
    | int j => cases h2; simp [PyData.eqv]
    | str j => cases h2; simp [PyData.eqv]
    | tup ys => rw [py] at h2; cases e2 : pyA ys with | none => rw [e2] at h2; cases h2 | some qs => rw [e2] at h2; cases h2; simp [PyData.eqv]
    | lst ys => rw [py] at h2; cases e2 : pyA ys with | none => rw [e2] at h2; cases h2 | some qs => rw [e2] at h2; cases h2; simp [PyData.eqv]
    | _ => cases b2
  | .str s, e, p, q, h1, h2, b1, b2 => by
    cases h1
    cases e with
    | non => cases h2; simp [PyData.eqv]
    | int j => cases h2; simp [PyData.eqv]
    | str t =>
      cases h2
      rw [PyData.eqv, beq_iff_eq]
      constructor
      · intro h
        injection h with h
        rw [show s = t by simpa using congrArg Array.toList h]
      · intro h; cases h; rfl
    | tup ys => rw [py] at h2; cases e2 : pyA ys with | none => rw [e2] at h2; cases h2 | some qs => rw [e2] at h2; cases h2; simp [PyData.eqv]
    | lst ys => rw [py] at h2; cases e2 : pyA ys with | none => rw [e2] at h2; cases h2 | some qs => rw [e2] at h2; cases h2; simp [PyData.eqv]
    | _ => cases b2
  | .tup xs, e, p, q, h1, h2, b1, b2 => by
    rw [py] at h1
    cases e1 : pyA xs with
    | none => rw [e1] at h1; cases h1
    | some ps =>
    rw [e1] at h1
    cases h1
    cases e with
    | non => cases h2; simp [PyData.eqv]
    | int j => cases h2; simp [PyData.eqv]
    | str j => cases h2; simp [PyData.eqv]
    | tup ys =>
      rw [py] at h2
      cases e2 : pyA ys with
      | none => rw [e2] at h2; cases h2
      | some qs =>
        rw [e2] at h2; cases h2
        rw [noB] at b1 b2
        have := eqvA_iff e1 e2 b1 b2
        rw [PyData.eqv, this]
        constructor
        · intro h; rw [h]
        · intro h; cases h; rfl
    | lst ys => rw [py] at h2; cases e2 : pyA ys with | none => rw [e2] at h2; cases h2 | some qs => rw [e2] at h2; cases h2; simp [PyData.eqv]
    | _ => cases b2
  | .lst xs, e, p, q, h1, h2, b1, b2 => by
    rw [py] at h1
    cases e1 : pyA xs with
    | none => rw [e1] at h1; cases h1
    | some ps =>
    rw [e1] at h1
    cases h1
    cases e with
    | non => cases h2; simp [PyData.eqv]
    | int j => cases h2; simp [PyData.eqv]
    | str j => cases h2; simp [PyData.eqv]
    | lst ys =>
      rw [py] at h2
      cases e2 : pyA ys with
      | none => rw [e2] at h2; cases h2
      | some qs =>
        rw [e2] at h2; cases h2
        rw [noB] at b1 b2
        have := eqvA_iff e1 e2 b1 b2
        rw [PyData.eqv, this]
        constructor
        · intro h; rw [h]
        · intro h; cases h; rfl
    | tup ys => rw [py] at h2; cases e2 : pyA ys with | none => rw [e2] at h2; cases h2 | some qs => rw [e2] at h2; cases h2; simp [PyData.eqv]
    | _ => cases b2
  | .bl _, e, p, q, h1, h2, b1, b2 => by cases b1
  | .dic _, e, p, q, h1, h2, b1, b2 => by cases b1
  | .fn _, e, p, q, h1, h2, b1, b2 => by cases b1
  | .loc _, e, p, q, h1, h2, b1, b2 => by cases b1
  | .frz _, e, p, q, h1, h2, b1, b2 => by cases b1
theorem eqvA_iff : ∀ {ds es : List D} {ps qs : List PyData}, pyA ds = some ps → pyA es = some qs → noBA ds = true → noBA es = true → (PyData.eqvAll ps qs = true ↔ ds = es)
  | [], [], ps, qs, h1, h2, _, _ => by cases h1; cases h2; simp [PyData.eqvAll]
  | [], y :: ys, ps, qs, h1, h2, _, _ => by
    cases h1
    rw [pyA] at h2
    split at h2
    · cases h2; simp [PyData.eqvAll]
    · cases h2
  | x :: xs, [], ps, qs, h1, h2, _, _ => by
    cases h2
    rw [pyA] at h1
    split at h1
    · cases h1; simp [PyData.eqvAll]
    · cases h1
  | x :: xs, y :: ys, ps, qs, h1, h2, b1, b2 => by
    rw [pyA] at h1 h2
    rw [noBA, Bool.and_eq_true] at b1 b2
    split at h1
    · rename_i p ps' k1 k2
      split at h2
      · rename_i q qs' k3 k4
        cases h1; cases h2
        rw [PyData.eqvAll, Bool.and_eq_true, eqv_iff k1 k3 b1.1 b2.1, eqvA_iff k2 k4 b1.2 b2.2]
        constructor
        · rintro ⟨rfl, rfl⟩; rfl
        · intro h; cases h; exact ⟨rfl, rfl⟩
      · cases h2
    · cases h1
end
theorem ne_ok {n m : Nat} {d e : D} (hd : okD n d = true) (he : okD m e = true) (hn : n ≤ 50) (hm : m ≤ 50) (bd : noB d = true) (be : noB e = true) (h : d ≠ e) : eqB d e = some false := by
  obtain ⟨p, o⟩ := ok1 hd
  obtain ⟨q, o'⟩ := ok1 he
  have sh : SeqAt.shaped p = true := by
    unfold SeqAt.shaped
    rw [Bool.and_eq_true, decide_eq_true_iff]
    exact ⟨o.lay, Nat.le_trans o.dep (by omega)⟩
  have sh' : SeqAt.shaped q = true := by
    unfold SeqAt.shaped
    rw [Bool.and_eq_true, decide_eq_true_iff]
    exact ⟨o'.lay, Nat.le_trans o'.dep (by omega)⟩
  have key : PyData.eqv p q = false := Bool.eq_false_iff.mpr fun z => h ((eqv_iff o.e o'.e bd be).mp z)
  have fb : (match py d, py e with | some p, some q => if SeqAt.shaped p = true ∧ SeqAt.shaped q = true then some (PyData.eqv p q) else none | _, _ => none) = some false := by
    rw [o.e, o'.e]
    dsimp only
    rw [if_pos ⟨sh, sh'⟩, key]
  cases d with
  | non => cases e with
    | non => exact absurd rfl h
    | int _ => exact fb
    | str _ => exact fb
    | tup _ => exact fb
    | lst _ => exact fb
    | _ => cases be
  | int i => cases e with
    | int j => show some (decide (i = j)) = _; rw [decide_eq_false fun z => h (by rw [z])]
    | non => exact fb
    | str _ => exact fb
    | tup _ => exact fb
    | lst _ => exact fb
    | _ => cases be
  | str s => cases e with
    | str t => show some (decide (s = t)) = _; rw [decide_eq_false fun z => h (by rw [z])]
    | int _ => exact fb
    | non => exact fb
    | tup _ => exact fb
    | lst _ => exact fb
    | _ => cases be
  | tup xs => cases e with
    | non => exact fb
    | int _ => exact fb
    | str _ => exact fb
    | tup _ => exact fb
    | lst _ => exact fb
    | _ => cases be
  | lst xs => cases e with
    | non => exact fb
    | int _ => exact fb
    | str _ => exact fb
    | tup _ => exact fb
    | lst _ => exact fb
    | _ => cases be
  | _ => cases bd
theorem ceq_no {n m : Nat} {d e : D} (hd : okD n d = true) (he : okD m e = true) (hn : n ≤ 50) (hm : m ≤ 50) (bd : noB d = true) (be : noB e = true) (h : d ≠ e) : cmpD .Eq d e = some (.bl false) := by
  show (eqB d e).map _ = _
  rw [ne_ok hd he hn hm bd be h]; rfl
theorem cne_no {n m : Nat} {d e : D} (hd : okD n d = true) (he : okD m e = true) (hn : n ≤ 50) (hm : m ≤ 50) (bd : noB d = true) (be : noB e = true) (h : d ≠ e) : cmpD .NotEq d e = some (.bl true) := by
  show (eqB d e).map _ = _
  rw [ne_ok hd he hn hm bd be h]; rfl
theorem noB_pd {u v : List Nat} : noB (pd u v) = true := rfl
theorem cne_pd {u v x y : List Nat} (hu : Wd u) (hv : Wd v) (hx : Wd x) (hy : Wd y) : cmpD .NotEq (pd u v) (pd x y) = some (.bl (!decide (u = x ∧ v = y))) := by
  by_cases h : u = x ∧ v = y
  · rw [h.1, h.2, cne_ok (okD_pd (n := 0) hx hy) (by omega)]; simp
  · rw [cne_no (okD_pd (n := 0) hu hv) (okD_pd (n := 0) hx hy) (by omega) (by omega) rfl rfl, decide_eq_false h]
    · rfl
    · intro z; injection z with z; simp at z; exact h z
theorem cne_pd0 {u v : List Nat} (hu : Wd u) (hv : Wd v) : cmpD .NotEq (pd u v) (.tup []) = some (.bl true) :=
  cne_no (okD_pd (n := 0) hu hv) (n := 1) (m := 0) rfl (by omega) (by omega) rfl rfl (by intro z; injection z with z; cases z)
end EK

set_option Elab.async false
set_option linter.all false
set_option maxRecDepth 100000
set_option maxHeartbeats 4000000
namespace EK
open PySem L2 PySem.Spec PyProof.Rows
/-! ### origins -/
/-- shorter, or as long and less -/
def pltB (a b : List Nat) : Bool := decide (a.length < b.length ∨ (a.length = b.length ∧ a < b))
def pickO : Option (List Nat) → Option (List Nat) → Option (List Nat)
  | none, y => y
  | some a, none => some a
  | some a, some b => if pltB b a = true then some b else some a
def candO (own : List Nat) (l : Nat) (f : List Nat → Option (List Nat)) (t : List Nat) : Option (List Nat) := if t.take own.length = own then (f (t.drop own.length)).map (l :: ·) else none
def bwO (u v : List Nat) : Nat → List Nat → Option (List Nat)
  | _, [] => some []
  | 0, _ :: _ => none
  | n + 1, c :: t => pickO (candO u 97 (bwO u v n) (c :: t)) (candO v 98 (bwO u v n) (c :: t))
def orgO (u v t : List Nat) : Option (List Nat) := bwO u v t.length t
theorem cand_congr {own : List Nat} {l : Nat} {f g : List Nat → Option (List Nat)} {t : List Nat} (h : f (t.drop own.length) = g (t.drop own.length)) : candO own l f t = candO own l g t := by
  unfold candO; rw [h]
theorem bw_more {u v : List Nat} (hu : 1 ≤ u.length) (hv : 1 ≤ v.length) : ∀ (n m : Nat) (t : List Nat), t.length ≤ n → t.length ≤ m → bwO u v n t = bwO u v m t
  | _, _, [], _, _ => by simp [bwO]
  | 0, _, c :: t, h, _ => by simp at h
  | _ + 1, 0, c :: t, _, h => by simp at h
  | n + 1, m + 1, c :: t, h1, h2 => by
    rw [List.length_cons] at h1 h2
    simp only [bwO]
    rw [cand_congr (bw_more hu hv n m ((c :: t).drop u.length) (by rw [List.length_drop, List.length_cons]; omega) (by rw [List.length_drop, List.length_cons]; omega)),
      cand_congr (bw_more hu hv n m ((c :: t).drop v.length) (by rw [List.length_drop, List.length_cons]; omega) (by rw [List.length_drop, List.length_cons]; omega))]
theorem org_nil {u v : List Nat} : orgO u v [] = some [] := rfl
theorem org_eq {u v t : List Nat} (hu : 1 ≤ u.length) (hv : 1 ≤ v.length) (ht : t ≠ []) : orgO u v t = pickO (candO u 97 (orgO u v) t) (candO v 98 (orgO u v) t) := by
  cases t with
  | nil => exact absurd rfl ht
  | cons c t =>
    unfold orgO
    rw [List.length_cons, bwO]
    rw [cand_congr (g := fun t => bwO u v t.length t) (bw_more hu hv _ _ _ (by rw [List.length_drop, List.length_cons]; omega) (Nat.le_refl _)),
      cand_congr (g := fun t => bwO u v t.length t) (bw_more hu hv _ _ _ (by rw [List.length_drop, List.length_cons]; omega) (Nat.le_refl _))]
theorem pick_some {x y : Option (List Nat)} {o : List Nat} (h : pickO x y = some o) : x = some o ∨ y = some o := by
  cases x with
  | none => exact .inr h
  | some a =>
    cases y with
    | none => exact .inl h
    | some b =>
      unfold pickO at h
      dsimp only at h
      split at h
      · exact .inr h
      · exact .inl h
theorem pick_none {x y : Option (List Nat)} (h : pickO x y = none) : x = none ∧ y = none := by
  cases x with
  | none => exact ⟨rfl, h⟩
  | some a =>
    cases y with
    | none => cases h
    | some b =>
      unfold pickO at h
      dsimp only at h
      split at h <;> cases h
theorem cand_some {own : List Nat} {l : Nat} {f : List Nat → Option (List Nat)} {t o : List Nat} (h : candO own l f t = some o) : ∃ r, t = own ++ t.drop own.length ∧ f (t.drop own.length) = some r ∧ o = l :: r := by
  unfold candO at h
  split at h
  · rename_i e
    cases q : f (t.drop own.length) with
    | none => rw [q] at h; cases h
    | some r =>
      rw [q] at h
      cases h
      refine ⟨r, ?_, rfl, rfl⟩
      have := List.take_append_drop own.length t
      rw [e] at this
      exact this.symm
  · cases h
/-- what is told is an origin -/
theorem org_sound {u v : List Nat} (hu : 1 ≤ u.length) (hv : 1 ≤ v.length) : ∀ (n : Nat) (t o : List Nat), t.length ≤ n → orgO u v t = some o → imgW u v o = t ∧ Wd o
  | n, [], o, _, h => by
    rw [org_nil] at h
    cases h
    exact ⟨rfl, fun c h => by cases h⟩
  | 0, c :: t, o, h, _ => by simp at h
  | n + 1, c :: t, o, hn, h => by
    rw [org_eq hu hv (by simp)] at h
    rw [List.length_cons] at hn
    rcases pick_some h with h | h
    · obtain ⟨r, e1, e2, rfl⟩ := cand_some h
      obtain ⟨i, w⟩ := org_sound hu hv n _ r (by rw [List.length_drop, List.length_cons]; omega) e2
      refine ⟨?_, fun x hx => ?_⟩
      · rw [imgW_cons, if_pos rfl, i]; exact e1.symm
      · rcases List.mem_cons.mp hx with rfl | hx
        · exact .inl rfl
        · exact w x hx
    · obtain ⟨r, e1, e2, rfl⟩ := cand_some h
      obtain ⟨i, w⟩ := org_sound hu hv n _ r (by rw [List.length_drop, List.length_cons]; omega) e2
      refine ⟨?_, fun x hx => ?_⟩
      · rw [imgW_cons, if_neg (by decide), i]; exact e1.symm
      · rcases List.mem_cons.mp hx with rfl | hx
        · exact .inr rfl
        · exact w x hx
theorem cand_yes {own t : List Nat} {l : Nat} {f : List Nat → Option (List Nat)} {r : List Nat} (h : f t = some r) : candO own l f (own ++ t) = some (l :: r) := by
  unfold candO
  rw [List.take_left, if_pos rfl, List.drop_left, h]; rfl
/-- where there is an origin, one is told -/
theorem org_full {u v : List Nat} (hu : 1 ≤ u.length) (hv : 1 ≤ v.length) : ∀ w : List Nat, Wd w → ∃ o, orgO u v (imgW u v w) = some o
  | [], _ => ⟨[], rfl⟩
  | c :: w, hw => by
    obtain ⟨o, h⟩ := org_full hu hv w fun x hx => hw x (List.mem_cons_of_mem _ hx)
    have ne : imgW u v (c :: w) ≠ [] := by
      have := imgW_pos hu hv (c :: w)
      intro z
      rw [z] at this
      simp at this
    cases q : orgO u v (imgW u v (c :: w)) with
    | some o => exact ⟨o, rfl⟩
    | none =>
      rw [org_eq hu hv ne] at q
      obtain ⟨q1, q2⟩ := pick_none q
      rw [imgW_cons] at q1 q2
      by_cases hc : c = 97
      · rw [if_pos hc, cand_yes h] at q1; cases q1
      · rw [if_neg hc, cand_yes h] at q2; cases q2
/-! two words that do not agree tell words in one way alone -/
theorem img_sub {u v : List Nat} : ∀ w : List Nat, imgW u (u ++ v) w = imgW u v (imgW [97] [97, 98] w)
  | [] => rfl
  | c :: w => by
    rw [imgW_cons, img_sub w, imgW_cons, imgW_app]
    congr 1
    by_cases h : c = 97
    · rw [if_pos h, if_pos h]; simp [imgW]
    · rw [if_neg h, if_neg h]; simp [imgW]
theorem img_sub' {u v : List Nat} : ∀ w : List Nat, imgW (v ++ u) v w = imgW u v (imgW [98, 97] [98] w)
  | [] => rfl
  | c :: w => by
    rw [imgW_cons, img_sub' w, imgW_cons, imgW_app]
    congr 1
    by_cases h : c = 97
    · rw [if_pos h, if_pos h]; simp [imgW]
    · rw [if_neg h, if_neg h]; simp [imgW]
theorem code2 : ∀ (n : Nat) (u v x y : List Nat), u.length + v.length ≤ n → u ≠ [] → v ≠ [] → u ++ imgW u v x = v ++ imgW u v y → u ++ v = v ++ u
  | 0, u, v, x, y, h, hu, hv, _ => by
    have := List.length_pos_iff.mpr hu
    omega
  | n + 1, u, v, x, y, h, hu, hv, e => by
    have lu := List.length_pos_iff.mpr hu
    have lv := List.length_pos_iff.mpr hv
    rcases Nat.lt_trichotomy u.length v.length with c | c | c
    · -- v begins with u
      obtain ⟨v', rfl⟩ : ∃ v', v = u ++ v' := by
        have p := (List.append_eq_append_iff.mp e)
        rcases p with ⟨a, h1, _⟩ | ⟨a, h1, _⟩
        · exact ⟨a, h1⟩
        · have := congrArg List.length h1
          rw [List.length_append] at this
          omega
      have hv' : v' ≠ [] := by
        intro z
        rw [z] at c
        simp at c
      rw [List.append_assoc, List.append_cancel_left_eq, img_sub, img_sub] at e
      cases x with
      | nil =>
        have := congrArg List.length e
        rw [List.length_append] at this
        have l := List.length_pos_iff.mpr hv'
        simp [imgW] at this
        omega
      | cons b x =>
        have hx : imgW u v' (imgW [97] [97, 98] (b :: x)) = u ++ imgW u v' ((if b = 97 then [] else [98]) ++ imgW [97] [97, 98] x) := by
          rw [imgW_cons]
          by_cases hb : b = 97
          · rw [if_pos hb, if_pos hb, List.nil_append, List.singleton_append, imgW_cons, if_pos rfl]
          · rw [if_neg hb, if_neg hb, List.cons_append, imgW_cons, if_pos rfl]
        rw [hx] at e
        have ih := code2 n u v' _ _ (by rw [List.length_append] at h; omega) hu hv' e
        rw [List.append_assoc, ← ih]
    · have : u = v := by
        have := congrArg (List.take u.length) e
        rw [List.take_left, c, List.take_left] at this
        exact this
      rw [this]
    · obtain ⟨u', rfl⟩ : ∃ u', u = v ++ u' := by
        have p := (List.append_eq_append_iff.mp e.symm)
        rcases p with ⟨a, h1, _⟩ | ⟨a, h1, _⟩
        · exact ⟨a, h1⟩
        · have := congrArg List.length h1
          rw [List.length_append] at this
          omega
      have hu' : u' ≠ [] := by
        intro z
        rw [z] at c
        simp at c
      rw [List.append_assoc, List.append_cancel_left_eq, img_sub', img_sub'] at e
      cases y with
      | nil =>
        have z : u' ++ imgW u' v (imgW [98, 97] [98] x) = [] := e
        exact absurd (List.append_eq_nil_iff.mp z).1 hu'
      | cons b y =>
        have hy : imgW u' v (imgW [98, 97] [98] (b :: y)) = v ++ imgW u' v ((if b = 97 then [97] else []) ++ imgW [98, 97] [98] y) := by
          rw [imgW_cons]
          by_cases hb : b = 97
          · rw [if_pos hb, if_pos hb, List.cons_append, imgW_cons, if_neg (by decide)]
          · rw [if_neg hb, if_neg hb, List.nil_append, List.singleton_append, imgW_cons, if_neg (by decide)]
        rw [hy] at e
        have ih := code2 n u' v _ _ (by rw [List.length_append] at h; omega) hu' hv e
        rw [List.append_assoc, ih]
theorem img_inj {u v : List Nat} (hu : u ≠ []) (hv : v ≠ []) (hn : u ++ v ≠ v ++ u) : ∀ (x y : List Nat), Wd x → Wd y → imgW u v x = imgW u v y → x = y
  | [], [], _, _, _ => rfl
  | [], c :: y, _, _, e => by
    have := imgW_pos (List.length_pos_iff.mpr hu) (List.length_pos_iff.mpr hv) (c :: y)
    rw [← e] at this
    simp [imgW] at this
  | c :: x, [], _, _, e => by
    have := imgW_pos (List.length_pos_iff.mpr hu) (List.length_pos_iff.mpr hv) (c :: x)
    rw [e] at this
    simp [imgW] at this
  | c :: x, d :: y, wx, wy, e => by
    have hc := wx c (List.mem_cons_self ..)
    have hd := wy d (List.mem_cons_self ..)
    rw [imgW_cons, imgW_cons] at e
    have tl : ∀ {a : List Nat}, a ++ imgW u v x = a ++ imgW u v y → x = y := fun h => img_inj hu hv hn x y (fun z hz => wx z (List.mem_cons_of_mem _ hz)) (fun z hz => wy z (List.mem_cons_of_mem _ hz)) (List.append_cancel_left h)
    rcases hc with rfl | rfl <;> rcases hd with rfl | rfl
    · rw [if_pos rfl] at e; rw [tl e]
    · rw [if_pos rfl, if_neg (by decide)] at e
      exact absurd (code2 _ u v x y (Nat.le_refl _) hu hv e) hn
    · rw [if_pos rfl, if_neg (by decide)] at e
      exact absurd (code2 _ u v y x (Nat.le_refl _) hu hv e.symm) hn
    · rw [if_neg (by decide)] at e; rw [tl e]
end EK

set_option Elab.async false
set_option linter.all false
set_option maxRecDepth 100000
set_option maxHeartbeats 4000000
namespace EK
open PySem L2 PySem.Spec PyProof.Rows
/-! ### origin_in -/
def oD : Option (List Nat) → D
  | none => .non
  | some w => .str w
@[simp] theorem oD_noLoc {o : Option (List Nat)} : noLoc (oD o) = true := by cases o <;> rfl
@[simp] theorem oD_vw {S : Sto} {o : Option (List Nat)} : vw S (oD o) = oD o := by cases o <;> rfl
theorem str_inj {a b : List Nat} : ((⟨a.toArray⟩ : Str) == ⟨b.toArray⟩) = decide (a = b) := by
  by_cases h : a = b
  · subst h; simp
  · rw [decide_eq_false h]
    rw [beq_eq_false_iff_ne]
    intro e
    injection e with e
    exact h (by simpa using e)
theorem lt_pairD {a b : List Nat} {i j : Int} (hi : i = a.length) (hj : j = b.length) : ltB (.tup [.int i, .str a]) (.tup [.int j, .str b]) = some (pltB a b) := by
  have e : PySem.W.dataLt (.tuple [.int i, .str ⟨a.toArray⟩]) (.tuple [.int j, .str ⟨b.toArray⟩]) = pltB a b := by
    rw [PySem.W.dataLt_pair (by simp [PySem.W.alike]) (by simp [PySem.W.alike]), PySem.W.dataLt_int, PySem.W.dataLt_str]
    simp only [PyData.eqv, beq_iff_eq, str_inj, decide_eq_true_iff]
    unfold pltB
    subst hi hj
    by_cases h1 : (a.length : Int) = b.length
    · have h1' : a.length = b.length := by omega
      rw [if_pos h1]
      by_cases h2 : a = b
      · subst h2; simp
      · rw [if_neg h2]
        simp [h1']
    · have h1' : ¬ a.length = b.length := by omega
      rw [if_neg h1]
      simp [h1']
  show (if PySem.W.alike (.tuple [.int i, .str ⟨a.toArray⟩]) (.tuple [.int j, .str ⟨b.toArray⟩]) = true ∧ nonePy (.tuple [.int i, .str ⟨a.toArray⟩]) = false ∧ (PyData.tuple [.int i, .str ⟨a.toArray⟩]).depth ≤ 64 then some (PySem.W.dataLt (.tuple [.int i, .str ⟨a.toArray⟩]) (.tuple [.int j, .str ⟨b.toArray⟩])) else none) = _
  rw [if_pos ⟨by simp [PySem.W.alike, PySem.W.alikeAll], rfl, by simp [PyData.depth, PyData.depthAll]⟩, e]
theorem cut_any {α : Type} {xs : List α} {p L : Nat} {i j : Int} (hi : i = p) (hj : j = ((p + L : Nat) : Int)) (hp : p ≤ xs.length) : cutL xs (some i) (some j) = (xs.drop p).take L := by
  subst hi hj
  unfold cutL
  rw [HT.sIx_nat, HT.sIx_nat, Nat.min_eq_left hp]
  by_cases h : p + L ≤ xs.length
  · rw [Nat.min_eq_left h]; congr 1; omega
  · rw [Nat.min_eq_right (by omega), List.take_of_length_le (by simp), List.take_of_length_le (by simp; omega)]
section
variable {Φ Φf : Str → Option Fsem} {G : Str → Option D} {fuel : Nat}
def iStep15 : List CS := [.set (.one 7) (.bin .Add (.var 4) (.idx (.var 2) (.var 6))),
  .ite (.or (.cmp .Is (.idx (.var 2) (.var 3)) (.con .non)) (.cmp .Lt (.tup [.blt .len [.var 7], .var 7]) (.tup [.blt .len [.idx (.var 2) (.var 3)], .idx (.var 2) (.var 3)]))) [.putL 2 (.var 3) (.var 7)] []]
def lStep15 : List CS := [.set (.one 6) (.bin .Add (.var 3) (.blt .len [.var 5])),
  .ite (.and (.cmp .Eq (.sl (.var 1) (.var 3) (.var 6)) (.var 5)) (.cmp .IsNot (.idx (.var 2) (.var 6)) (.con .non))) iStep15 []]
theorem tb_get {tb : List (Option (List Nat))} {i : Int} {j : Nat} {o : Option (List Nat)} (h : tb[j]? = some o) (hi : i = j) : idxD (.lst (tb.map oD)) (.int i) = some (oD o) := idx_nat (by rw [List.getElem?_map, h]; rfl) hi
theorem cmp_ltP {a b : List Nat} {i j : Int} (hi : i = a.length) (hj : j = b.length) : cmpD .Lt (.tup [.int i, .str a]) (.tup [.int j, .str b]) = some (.bl (pltB a b)) := by
  show (ltB (.tup [.int i, .str a]) (.tup [.int j, .str b])).map (fun k => D.bl k) = _
  rw [lt_pairD hi hj]; rfl
/-- one of the two letters -/
theorem step15 {P : Option D} {w : List Nat} {S : Sto} {n0 p l : Nat} {own : List Nat} {x6 x7 : Option D} {tb : List (Option (List Nat))} {b : Option (List Nat)} (hw : w.length ≤ 400) (ho : own.length ≤ 60) (hp : p < w.length) (ht : tb.length = w.length + 1) (hs : ∀ o ∈ tb, ∀ a, o = some a → a.length ≤ 401)
    (hb : tb[p]? = some b) :
    ∃ y6 y7, exSs Φ Φf G fuel n0 lStep15 [P, some (.str w), some (.loc S.length), some (.int p), some (.str [l]), some (.str own), x6, x7] (S ++ [.lst (tb.map oD)]) =
      .next [P, some (.str w), some (.loc S.length), some (.int p), some (.str [l]), some (.str own), y6, y7] (S ++ [.lst ((tb.set p (pickO b (candO own l (fun t => (tb[w.length - t.length]?).getD none) (w.drop p)))).map oD)]) := by
  have hz : szL = 16777216 := rfl
  have lo := lenS_of (s := own) (by omega)
  have cu : slD (.str w) (some (p : Int)) (some ((p : Int) + own.length)) = some (.str ((w.drop p).take own.length)) := by
    show (if w.length ≤ szL then some (D.str (cutL w (some (p : Int)) (some ((p : Int) + own.length)))) else none) = _
    rw [if_pos (by omega), cut_any (p := p) (L := own.length) rfl (by omega) (by omega)]
  refine ⟨some (.int ((p : Int) + own.length)), ?_⟩
  by_cases c : (w.drop p).take own.length = own
  · have el : p + own.length ≤ w.length := by
      have := congrArg List.length c
      rw [List.length_take, List.length_drop] at this
      omega
    obtain ⟨r, hr⟩ : ∃ r, tb[p + own.length]? = some r := ⟨_, List.getElem?_eq_getElem (by omega)⟩
    have gr := tb_get (i := (p : Int) + own.length) hr (by omega)
    have gb := tb_get (i := (p : Int)) hb rfl
    have ec : candO own l (fun t => (tb[w.length - t.length]?).getD none) (w.drop p) = r.map (l :: ·) := by
      unfold candO
      rw [if_pos c]
      have : w.length - ((w.drop p).drop own.length).length = p + own.length := by rw [List.length_drop, List.length_drop]; omega
      dsimp only
      rw [this, hr]; rfl
    rw [ec]
    cases r with
    | none =>
      refine ⟨x7, ?_⟩
      have e2 : pickO b ((none : Option (List Nat)).map (l :: ·)) = b := by cases b <;> rfl
      have e3 : tb.set p b = tb := by
        apply List.ext_getElem?
        intro i
        by_cases h : p = i
        · subst h; rw [List.getElem?_set_self (by omega), hb]
        · rw [List.getElem?_set_ne h]
      rw [e2, e3]
      have i1 : cmpD .IsNot .non .non = some (.bl false) := rfl
      have gr : idxD (.lst (tb.map oD)) (.int ((p : Int) + own.length)) = some .non := gr
      generalize tb.map oD = TB at *
      simp [lStep15, lo, cu, c, gr, i1]
    | some a =>
      have la := hs _ (List.mem_of_getElem? hr) a rfl
      have i1 : cmpD .IsNot (.str a) .non = some (.bl true) := rfl
      have gr : idxD (.lst (tb.map oD)) (.int ((p : Int) + own.length)) = some (.str a) := gr
      have ad : addD (.str [l]) (.str a) = some (.str (l :: a)) := add_str (s := [l]) (t := a) (by show 1 + a.length ≤ 16777216; omega)
      refine ⟨some (.str (l :: a)), ?_⟩
      have l7 := lenS_of (s := l :: a) (by simp; omega)
      have ix : ixN (tb.map oD).length (p : Int) = some p := ix_of rfl (by rw [List.length_map]; omega)
      have st : ∀ o : Option (List Nat), (tb.map oD).set p (oD o) = (tb.set p o).map oD := fun o => by rw [List.map_set]
      cases b with
      | none =>
        have gb : idxD (.lst (tb.map oD)) (.int (p : Int)) = some .non := gb
        have i2 : cmpD .Is .non .non = some (.bl true) := rfl
        have e2 : pickO none ((some a).map (l :: ·)) = some (l :: a) := rfl
        rw [e2, ← st]
        show _ = SR.next _ (S ++ [.lst ((tb.map oD).set p (.str (l :: a)))])
        generalize tb.map oD = TB at *
        simp [lStep15, iStep15, lo, cu, c, gr, i1, ad, gb, i2, ix]
      | some b =>
        have lb := hs _ (List.mem_of_getElem? hb) b rfl
        have gb : idxD (.lst (tb.map oD)) (.int (p : Int)) = some (.str b) := gb
        have i2 : cmpD .Is (.str b) .non = some (.bl false) := rfl
        have l8 := lenS_of (s := b) (by omega)
        have lt : cmpD .Lt (.tup [.int ((l :: a).length : Nat), .str (l :: a)]) (.tup [.int (b.length : Nat), .str b]) = some (.bl (pltB (l :: a) b)) := cmp_ltP rfl rfl
        have e2 : pickO (some b) ((some a).map (l :: ·)) = if pltB (l :: a) b = true then some (l :: a) else some b := rfl
        rw [e2]
        cases q : pltB (l :: a) b with
        | true =>
          rw [if_pos rfl, ← st]
          show _ = SR.next _ (S ++ [.lst ((tb.map oD).set p (.str (l :: a)))])
          rw [q] at lt
          generalize tb.map oD = TB at *
          generalize hone : l :: a = one at *
          simp [lStep15, iStep15, lo, cu, c, gr, i1, ad, gb, i2, l7, l8, hz, lt, ix]
        | false =>
          have e3 : tb.set p (some b) = tb := by
            apply List.ext_getElem?
            intro i
            by_cases h : p = i
            · subst h; rw [List.getElem?_set_self (by omega), hb]
            · rw [List.getElem?_set_ne h]
          rw [if_neg (by decide), e3]
          rw [q] at lt
          generalize tb.map oD = TB at *
          generalize hone : l :: a = one at *
          simp [lStep15, iStep15, lo, cu, c, gr, i1, ad, gb, i2, l7, l8, hz, lt]
  · refine ⟨x7, ?_⟩
    have ec : candO own l (fun t => (tb[w.length - t.length]?).getD none) (w.drop p) = none := by unfold candO; rw [if_neg c]
    have e2 : pickO b none = b := by cases b <;> rfl
    have e3 : tb.set p b = tb := by
      apply List.ext_getElem?
      intro i
      by_cases h : p = i
      · subst h; rw [List.getElem?_set_self (by omega), hb]
      · rw [List.getElem?_set_ne h]
    rw [ec, e2, e3]
    generalize tb.map oD = TB at *
    simp [lStep15, lo, cu, c]
end
end EK

set_option Elab.async false
set_option linter.all false
set_option maxRecDepth 100000
set_option maxHeartbeats 4000000
namespace EK
open PySem L2 PySem.Spec PyProof.Rows
/-- what is known from the place m on -/
def tblO (u v w : List Nat) (m : Nat) : List (Option (List Nat)) := (List.range (w.length + 1)).map fun k => if k < m then none else orgO u v (w.drop k)
theorem tbl_len {u v w : List Nat} {m : Nat} : (tblO u v w m).length = w.length + 1 := by simp [tblO]
theorem tbl_get {u v w : List Nat} {m k : Nat} (hk : k ≤ w.length) : (tblO u v w m)[k]? = some (if k < m then none else orgO u v (w.drop k)) := by
  unfold tblO
  rw [List.getElem?_map, List.getElem?_range (by omega)]; rfl
theorem tbl_set {u v w : List Nat} {p : Nat} (hp : p < w.length) : (tblO u v w (p + 1)).set p (orgO u v (w.drop p)) = tblO u v w p := by
  apply List.ext_getElem?
  intro i
  by_cases h : p = i
  · subst h
    rw [List.getElem?_set_self (by rw [tbl_len]; omega), tbl_get (by omega), if_neg (by omega)]
  · rw [List.getElem?_set_ne h]
    by_cases hi : i ≤ w.length
    · rw [tbl_get hi, tbl_get hi]
      by_cases c : i < p
      · rw [if_pos c, if_pos (by omega)]
      · rw [if_neg c, if_neg (by omega)]
    · rw [List.getElem?_eq_none (by rw [tbl_len]; omega), List.getElem?_eq_none (by rw [tbl_len]; omega)]
theorem org_len {u v : List Nat} (hu : 1 ≤ u.length) (hv : 1 ≤ v.length) {t o : List Nat} (h : orgO u v t = some o) : o.length ≤ t.length := by
  have := (org_sound hu hv _ t o (Nat.le_refl _) h).1
  rw [← this]
  exact imgW_pos hu hv o
theorem tbl_short {u v w : List Nat} (hu : 1 ≤ u.length) (hv : 1 ≤ v.length) (hw : w.length ≤ 400) {m : Nat} : ∀ o ∈ tblO u v w m, ∀ a, o = some a → a.length ≤ 401 := by
  intro o ho a e
  subst e
  unfold tblO at ho
  obtain ⟨k, _, h⟩ := List.mem_map.mp ho
  split at h
  · cases h
  · have := org_len hu hv h
    rw [List.length_drop] at this
    omega
/-- what the two letters look at is known -/
theorem cand_tbl {u v w own : List Nat} {l p : Nat} {tb : List (Option (List Nat))} (ho : 1 ≤ own.length) (hp : p < w.length) (h : ∀ k, p < k → k ≤ w.length → tb[k]? = some (orgO u v (w.drop k))) :
    candO own l (fun t => (tb[w.length - t.length]?).getD none) (w.drop p) = candO own l (orgO u v) (w.drop p) := by
  unfold candO
  by_cases c : (w.drop p).take own.length = own
  · rw [if_pos c, if_pos c]
    have el : p + own.length ≤ w.length := by
      have := congrArg List.length c
      rw [List.length_take, List.length_drop] at this
      omega
    have : w.length - ((w.drop p).drop own.length).length = p + own.length := by rw [List.length_drop, List.length_drop]; omega
    dsimp only
    rw [this, h _ (by omega) el, List.drop_drop]
    rfl
  · rw [if_neg c, if_neg c]
section
variable {Φ Φf : Str → Option Fsem} {G : Str → Option D} {fuel : Nat}
def lIn15 : List CS := [.loop (.many [4, 5]) .zip [.con (.str [97, 98]), .var 0] lStep15]
def bOrigIn : List CS := [.own 2 (.cat (.bin .Mult (.lst [.con .non]) (.blt .len [.var 1])) (.lst [.con (.str [])])),
  .loop (.one 3) .rng [.bin .Sub (.blt .len [.var 1]) (.con (.int 1)), .neg (.con (.int 1)), .neg (.con (.int 1))] lIn15, .frz 2, .ret (.idx (.var 2) (.con (.int 0)))]
theorem zip_ab {u v : List Nat} : itD .zip [.str [97, 98], pd u v] = some [.tup [.str [97], .str u], .tup [.str [98], .str v]] := rfl
theorem in15 {u v w : List Nat} {S : Sto} {n0 p : Nat} {x4 x5 x6 x7 : Option D} (r : Rp u v) (hw : w.length ≤ 400) (hp : p < w.length) :
    ∃ y4 y5 y6 y7, exSs Φ Φf G fuel n0 lIn15 [some (pd u v), some (.str w), some (.loc S.length), some (.int p), x4, x5, x6, x7] (S ++ [.lst ((tblO u v w (p + 1)).map oD)]) =
      .next [some (pd u v), some (.str w), some (.loc S.length), some (.int p), y4, y5, y6, y7] (S ++ [.lst ((tblO u v w p).map oD)]) := by
  have hu := r.u1
  have hv := r.v1
  obtain ⟨y6, y7, e1⟩ := step15 (Φ := Φ) (Φf := Φf) (G := G) (fuel := fuel) (P := some (pd u v)) (S := S) (n0 := n0) (l := 97) (x6 := x6) (x7 := x7) (tb := tblO u v w (p + 1)) (b := none) hw r.u2 hp tbl_len (tbl_short hu hv hw) (by rw [tbl_get (by omega), if_pos (by omega)])
  have k1 : ∀ k, p < k → k ≤ w.length → (tblO u v w (p + 1))[k]? = some (orgO u v (w.drop k)) := fun k h1 h2 => by rw [tbl_get h2, if_neg (by omega)]
  rw [cand_tbl hu hp k1] at e1
  have e1' : pickO none (candO u 97 (orgO u v) (w.drop p)) = candO u 97 (orgO u v) (w.drop p) := rfl
  rw [e1'] at e1
  obtain ⟨tb2, htb⟩ : ∃ tb2, tb2 = (tblO u v w (p + 1)).set p (candO u 97 (orgO u v) (w.drop p)) := ⟨_, rfl⟩
  have l2 : tb2.length = w.length + 1 := by rw [htb, List.length_set, tbl_len]
  have k2 : ∀ k, p < k → k ≤ w.length → tb2[k]? = some (orgO u v (w.drop k)) := fun k h1 h2 => by rw [htb, List.getElem?_set_ne (by omega)]; exact k1 k h1 h2
  have s2 : ∀ o ∈ tb2, ∀ a, o = some a → a.length ≤ 401 := by
    intro o ho a e
    rw [htb] at ho
    rcases List.mem_or_eq_of_mem_set ho with h | h
    · exact tbl_short hu hv hw o h a e
    · rw [e] at h
      obtain ⟨q, _, q2, q3⟩ := cand_some h.symm
      rw [q3, List.length_cons]
      have := org_len hu hv q2
      rw [List.length_drop, List.length_drop] at this
      omega
  obtain ⟨z6, z7, e2⟩ := step15 (Φ := Φ) (Φf := Φf) (G := G) (fuel := fuel) (P := some (pd u v)) (S := S) (n0 := n0) (l := 98) (x6 := y6) (x7 := y7) (tb := tb2) (b := candO u 97 (orgO u v) (w.drop p)) hw r.v2 hp l2 s2 (by rw [htb, List.getElem?_set_self (by rw [tbl_len]; omega)])
  have ne : w.drop p ≠ [] := by
    intro z
    have := congrArg List.length z
    rw [List.length_drop, List.length_nil] at this
    omega
  rw [cand_tbl hv hp k2, ← org_eq hu hv ne] at e2
  have e3 : tb2.set p (orgO u v (w.drop p)) = tblO u v w p := by rw [htb, List.set_set, tbl_set hp]
  rw [e3] at e2
  rw [← htb] at e1
  refine ⟨some (.str [98]), some (.str v), z6, z7, ?_⟩
  have a1 : exS Φ Φf G fuel n0 (.loop (.many [4, 5]) .zip [.con (.str [97, 98]), .var 0] lStep15) [some (pd u v), some (.str w), some (.loc S.length), some (.int p), x4, x5, x6, x7] (S ++ [.lst ((tblO u v w (p + 1)).map oD)]) = .next [some (pd u v), some (.str w), some (.loc S.length), some (.int p), some (.str [98]), some (.str v), z6, z7] (S ++ [.lst ((tblO u v w p).map oD)]) := by
    generalize (tblO u v w (p + 1)).map oD = T1 at *
    generalize tb2.map oD = T2 at *
    generalize (tblO u v w p).map oD = T3 at *
    simp [zip_ab, loopN, e1, e2]
  unfold lIn15
  rw [exSs, a1, then_next, exSs]
def OiOk (F : Fsem) : Prop := ∀ (u v w : List Nat) (S : Sto), Rp u v → w.length ≤ 400 → F [pd u v, .str w] S = .ok (oD (orgO u v w)) S
theorem tbl_top {u v w : List Nat} : (tblO u v w w.length).map oD = List.replicate w.length .non ++ [.str []] := by
  unfold tblO
  rw [List.range_succ, List.map_append, List.map_append]
  congr 1
  · rw [List.map_map]
    apply List.ext_getElem?
    intro i
    by_cases h : i < w.length
    · rw [List.getElem?_map, List.getElem?_range h, List.getElem?_replicate, if_pos h]
      show some (oD (if i < w.length then none else _)) = _
      rw [if_pos h]; rfl
    · rw [List.getElem?_eq_none (by simpa using h), List.getElem?_eq_none (by simpa using h)]
  · show [oD (if w.length < w.length then none else orgO u v (w.drop w.length))] = _
    rw [if_neg (by omega), List.drop_length]; rfl
theorem rep_non (n : Nat) : (List.replicate n [D.non]).flatten = List.replicate n .non := by
  induction n with
  | zero => rfl
  | succ n ih => rw [List.replicate_succ, List.flatten_cons, ih, List.replicate_succ]; rfl
theorem oiOk : OiOk (fsem Φ Φf G fuel 2 8 bOrigIn) := by
  intro u v w S r hw
  have hz : szL = 16777216 := rfl
  have lw := lenS_of (s := w) (by omega)
  have mu : mulD (.lst [.non]) (.int (w.length : Int)) = some (.lst (List.replicate w.length .non)) := by
    show (if in62 (w.length : Int) = true ∧ 1 * (w.length : Int).toNat ≤ szL then some (D.lst (List.replicate (w.length : Int).toNat [D.non]).flatten) else none) = _
    rw [if_pos ⟨in62_of (by omega) (by omega), by rw [hz]; omega⟩, Int.toNat_natCast, rep_non]
  have it : itD .rng [.int ((w.length : Int) - 1), .int (-1), .int (-1)] = some (rngS ((w.length : Int) - 1) (-1) w.length) := by
    show (if (-1 : Int) = -1 ∧ in62 ((w.length : Int) - 1) = true ∧ in62 (-1) = true then some (rngS ((w.length : Int) - 1) (-1) (((w.length : Int) - 1) - (-1)).toNat) else none) = _
    rw [if_pos ⟨rfl, in62_iff.mpr ⟨by omega, by omega⟩, by decide⟩]
    congr 2
    omega
  have key : ∀ n0 : Nat, ∃ y3 y4 y5 y6 y7, loopN (exSs Φ Φf G fuel n0 lIn15) (.one 3) (rngS ((w.length : Int) - 1) (-1) w.length) [some (pd u v), some (.str w), some (.loc S.length), none, none, none, none, none] (S ++ [.lst ((tblO u v w w.length).map oD)]) = .next [some (pd u v), some (.str w), some (.loc S.length), y3, y4, y5, y6, y7] (S ++ [.lst ((tblO u v w 0).map oD)]) := by
    intro n0
    refine loop0 (I := fun i Γ S' => i ≤ w.length ∧ S' = S ++ [.lst ((tblO u v w (w.length - i)).map oD)] ∧ ∃ y3 y4 y5 y6 y7, Γ = [some (pd u v), some (.str w), some (.loc S.length), y3, y4, y5, y6, y7])
      (post := fun q => ∃ y3 y4 y5 y6 y7, q = .next [some (pd u v), some (.str w), some (.loc S.length), y3, y4, y5, y6, y7] (S ++ [.lst ((tblO u v w 0).map oD)])) ⟨by omega, by rw [Nat.sub_zero], none, none, none, none, none, rfl⟩ ?_ ?_
    · rintro i x Γ S' hx ⟨hi, rfl, y3, y4, y5, y6, y7, rfl⟩
      obtain ⟨h1, ex⟩ := rngSAt hx
      have ex : x = .int ((w.length - 1 - i : Nat) : Int) := by
        rw [ex]
        congr 1
        omega
      subst ex
      obtain ⟨z4, z5, z6, z7, e⟩ := in15 (Φ := Φ) (Φf := Φf) (G := G) (fuel := fuel) (S := S) (n0 := n0) (p := w.length - 1 - i) (x4 := y4) (x5 := y5) (x6 := y6) (x7 := y7) r hw (by omega)
      have q1 : w.length - 1 - i + 1 = w.length - i := by omega
      have q2 : w.length - 1 - i = w.length - (i + 1) := by omega
      rw [q1] at e
      refine ⟨_, rfl, .inl ⟨_, _, e, by omega, by rw [q2], _, z4, z5, z6, z7, rfl⟩⟩
    · rintro Γ S' ⟨hi, rfl, y3, y4, y5, y6, y7, rfl⟩
      rw [rngS_len, Nat.sub_self]
      exact ⟨y3, y4, y5, y6, y7, rfl⟩
  obtain ⟨y3, y4, y5, y6, y7, k⟩ := key S.length
  rw [tbl_top] at k
  have g0 := tb_get (tb := tblO u v w 0) (i := 0) (j := 0) (o := orgO u v w) (by rw [tbl_get (by omega), if_neg (by omega), List.drop_zero]) rfl
  have hl1 : w.length + 1 ≤ 16777216 := by omega
  generalize (tblO u v w 0).map oD = T0 at *
  have on : outD S.length S (oD (orgO u v w)) = oD (orgO u v w) := outD_no oD_noLoc
  simp [bOrigIn, lw, mu, hz, hl1, it, k, g0, on]
end
end EK

set_option Elab.async false
set_option linter.all false
set_option maxRecDepth 100000
set_option maxHeartbeats 4000000
namespace EK
open PySem L2 PySem.Spec PyProof.Rows
/-! ### dicts by their keys -/
theorem hasK_get {es : List (Key × D)} {k : Key} : hasK es k = (getK es k).isSome := by
  unfold hasK getK
  induction es with
  | nil => rfl
  | cons q es ih =>
    rw [List.any_cons, List.find?_cons]
    by_cases h : q.1 = k
    · rw [decide_eq_true h]; rfl
    · rw [decide_eq_false h, Bool.false_or]; exact ih
/-! ### lists of texts -/
theorem ne_nilG {n : Nat} {d : D} {xs : List D} (h : okD n (.lst (d :: xs)) = true) (hn : n ≤ 50) : cmpD .NotEq (.lst (d :: xs)) (.lst []) = some (.bl true) := by
  obtain ⟨p, o⟩ := ok1 h
  have e := o.e
  rw [py] at e
  cases q : pyA (d :: xs) with
  | none => rw [q] at e; cases e
  | some ps =>
    rw [q] at e
    cases e
    obtain ⟨p0, p1, _, _, rfl⟩ := pyA_cons q
    have sh : SeqAt.shaped (.list (p0 :: p1)) = true := by
      unfold SeqAt.shaped
      rw [Bool.and_eq_true, decide_eq_true_iff]
      exact ⟨o.lay, Nat.le_trans o.dep (by omega)⟩
    have z : eqB (.lst (d :: xs)) (.lst []) = some false := by
      show (match (pyA (d :: xs)).map PyData.list, (pyA []).map PyData.list with
        | some p, some q => if SeqAt.shaped p = true ∧ SeqAt.shaped q = true then some (PyData.eqv p q) else none
        | _, _ => none) = _
      rw [q]
      show (if SeqAt.shaped (.list (p0 :: p1)) = true ∧ SeqAt.shaped (.list []) = true then some (PyData.eqv (.list (p0 :: p1)) (.list [])) else none) = _
      rw [if_pos ⟨sh, rfl⟩]
      rfl
    show (eqB _ _).map _ = _
    rw [z]; rfl
theorem okS {w : List Nat} (h : Wd w) : PyData.strOk ⟨w.toArray⟩ = true := by
  show (w.toArray.all fun c => decide (c < 0x110000)) = true
  rw [List.all_toArray, List.all_eq_true]
  intro c hc
  rcases h c hc with rfl | rfl <;> rfl
theorem min1S {x : List Nat} (hx : Wd x) : minD [.lst [.str x]] = some (.str x) := by
  show (if alikeB [.str ⟨x.toArray⟩] = true ∧ PyData.depthAll [.str ⟨x.toArray⟩] ≤ 60 ∧ PyData.canLayAll0 [.str ⟨x.toArray⟩] = true then some (D.str x) else none) = _
  rw [if_pos]
  refine ⟨rfl, by simp [PyData.depthAll, PyData.depth], ?_⟩
  rw [PyData.canLayAll0, PyData.canLay0, okS hx]; rfl
theorem min2S {x y : List Nat} (hx : Wd x) (hy : Wd y) : minD [.lst [.str x, .str y]] = some (.str (if y < x then y else x)) := by
  have e : dlt (.str y) (.str x) = decide (y < x) := by
    show PySem.W.dataLt (.str ⟨y.toArray⟩) (.str ⟨x.toArray⟩) = _
    rw [PySem.W.dataLt_str]
  show (if alikeB [.str ⟨x.toArray⟩, .str ⟨y.toArray⟩] = true ∧ PyData.depthAll [.str ⟨x.toArray⟩, .str ⟨y.toArray⟩] ≤ 60 ∧ PyData.canLayAll0 [.str ⟨x.toArray⟩, .str ⟨y.toArray⟩] = true then some (if dlt (.str y) (.str x) then D.str y else D.str x) else none) = _
  rw [if_pos, e]
  · by_cases h : y < x
    · rw [decide_eq_true h, if_pos rfl, if_pos h]
    · rw [decide_eq_false h, if_neg (by decide), if_neg h]
  · refine ⟨rfl, by simp [PyData.depthAll, PyData.depth], ?_⟩
    rw [PyData.canLayAll0, PyData.canLayAll0, PyData.canLay0, PyData.canLay0, okS hx, okS hy]; rfl
theorem min1I {i : Int} : minD [.lst [.int i]] = some (.int i) := rfl
theorem min2I {i j : Int} : minD [.lst [.int i, .int j]] = some (.int (min i j)) := rfl
end EK

set_option Elab.async false
set_option linter.all false
set_option maxRecDepth 100000
set_option maxHeartbeats 4000000
namespace EK
open PySem L2 PySem.Spec PyProof.Rows
/-! ### the law's own origins -/
def enD (o : List Nat) : D := .lst [.str o]
/-- the dict tells all from the place m on -/
structure DInv (u v w : List Nat) (es : List (Key × D)) (m : Nat) : Prop where
  at_ : ∀ k : Nat, k ≤ w.length → getK es (.inl (k : Int)) = if k < m then none else (orgO u v (w.drop k)).map enD
  few : es.length + m ≤ w.length + 1
section
variable {Φ Φf : Str → Option Fsem} {G : Str → Option D} {fuel : Nat}
def eFO1 : CE := .bin .Add (.var 5) (.var 8)
def eFO2 : CE := .blt .len [.var 8]
def eFO3 : CE := .var 8
def cFO3 : CE := .cmp .Eq (.blt .len [.var 8]) (.var 7)
def lFO1 : List CS := [.ite (.and (.cmp .Eq (.sl (.var 1) (.var 3) (.bin .Add (.var 3) (.blt .len [.var 6]))) (.var 6)) (.cmp .In (.bin .Add (.var 3) (.blt .len [.var 6])) (.var 2))) [.set (.one 4) (.bin .Add (.var 4) (.lc eFO1 (.one 8) .seq [.idx (.var 2) (.bin .Add (.var 3) (.blt .len [.var 6]))] (.con (.bl true)) [("_law_one", 8)]))] []]
def iFO : List CS := [.set (.one 7) (.blt .min [.lc eFO2 (.one 8) .seq [.var 4] (.con (.bl true)) [("_law_one", 8)]]), .putD 2 (.var 3) (.lst [.blt .min [.lc eFO3 (.one 8) .seq [.var 4] cFO3 [("_law_one", 8)]]])]
def lFO : List CS := [.set (.one 4) (.lst []), .loop (.many [5, 6]) .zip [.con (.str [97, 98]), .var 0] lFO1, .ite (.cmp .NotEq (.var 4) (.lst [])) iFO []]
def bFO : List CS := [.own 2 (.dic1 (.blt .len [.var 1]) (.lst [.con (.str [])])), .loop (.one 3) .rng [.bin .Sub (.blt .len [.var 1]) (.con (.int 1)), .neg (.con (.int 1)), .neg (.con (.int 1))] lFO, .frz 2, .ret (.dget (.var 2) (.con (.int 0)) (.lst []))]
def stL (xs : List (List Nat)) : D := .lst (xs.map .str)
theorem in_dic {es : List (Key × D)} {i : Int} : cmpD .In (.int i) (.dic es) = some (.bl (hasK es (.inl i))) := rfl
theorem idx_dic {es : List (Key × D)} {i : Int} : idxD (.dic es) (.int i) = getK es (.inl i) := rfl
/-- one of the two letters -/
theorem fo1 {P : Option D} {u v w : List Nat} {S : Sto} {n0 p l : Nat} {own : List Nat} {x7 x8 : Option D} {es : List (Key × D)} {xs : List (List Nat)} (hw : w.length ≤ 400) (ho : own.length ≤ 60) (ho1 : 1 ≤ own.length) (hp : p < w.length) (hd : DInv u v w es (p + 1)) (hx : xs.length ≤ 2) (hu : 1 ≤ u.length) (hv : 1 ≤ v.length) :
    exSs Φ Φf G fuel n0 lFO1 [P, some (.str w), some (.loc S.length), some (.int p), some (stL xs), some (.str [l]), some (.str own), x7, x8] (S ++ [.dic es]) =
      .next [P, some (.str w), some (.loc S.length), some (.int p), some (stL (xs ++ (candO own l (orgO u v) (w.drop p)).toList)), some (.str [l]), some (.str own), x7, x8] (S ++ [.dic es]) := by
  have hz : szL = 16777216 := rfl
  have lo := lenS_of (s := own) (by omega)
  have cu : slD (.str w) (some (p : Int)) (some ((p : Int) + own.length)) = some (.str ((w.drop p).take own.length)) := by
    show (if w.length ≤ szL then some (D.str (cutL w (some (p : Int)) (some ((p : Int) + own.length)))) else none) = _
    rw [if_pos (by omega), cut_any (p := p) (L := own.length) rfl (by omega) (by omega)]
  unfold stL
  by_cases c : (w.drop p).take own.length = own
  · have el : p + own.length ≤ w.length := by
      have := congrArg List.length c
      rw [List.length_take, List.length_drop] at this
      omega
    have gk := hd.at_ (p + own.length) el
    rw [if_neg (by omega)] at gk
    have ek : ((p + own.length : Nat) : Int) = (p : Int) + own.length := by omega
    rw [ek] at gk
    have ec : candO own l (orgO u v) (w.drop p) = (orgO u v (w.drop (p + own.length))).map (l :: ·) := by
      unfold candO
      rw [if_pos c, List.drop_drop]
    rw [ec]
    cases q : orgO u v (w.drop (p + own.length)) with
    | none =>
      rw [q] at gk
      have hk : hasK es (.inl ((p : Int) + own.length)) = false := by rw [hasK_get, gk]; rfl
      simp [lFO1, lo, cu, c, in_dic, hk]
    | some o =>
      rw [q] at gk
      have hk : hasK es (.inl ((p : Int) + own.length)) = true := by rw [hasK_get, gk]; rfl
      have gk : getK es (.inl ((p : Int) + own.length)) = some (.lst [.str o]) := gk
      have ol := org_len hu hv q
      rw [List.length_drop] at ol
      have ad : addD (.str [l]) (.str o) = some (.str (l :: o)) := add_str (s := [l]) (t := o) (by show 1 + o.length ≤ 16777216; omega)
      have ad2 : addD (.lst (xs.map .str)) (.lst [.str (l :: o)]) = some (.lst ((xs ++ [l :: o]).map .str)) := by
        rw [addL (by rw [List.length_map, hz]; simp; omega)]; simp
      have lc : ∀ x0 x1 x2 x3 x4 x6 x7 : Option D, lcLoop (fun _ S => .ok (.bl true) S) (ev Φ G eFO1) (.one 8) [x0, x1, x2, x3, x4, some (.str [l]), x6, x7, none] [.str o] [] (S ++ [.dic es]) = .ok (.lst [.str (l :: o)]) (S ++ [.dic es]) := by
        intro x0 x1 x2 x3 x4 x6 x7
        simp [lcLoop, eFO1, ad]
      have h1 : 1 ≤ 16777216 := by omega
      show exSs Φ Φf G fuel n0 lFO1 _ _ = SR.next [P, some (.str w), some (.loc S.length), some (.int p), some (.lst ((xs ++ [l :: o]).map .str)), some (.str [l]), some (.str own), x7, x8] (S ++ [.dic es])
      generalize hXS : xs.map D.str = XS at *
      generalize (xs ++ [l :: o]).map D.str = YS at *
      simp [lFO1, lo, cu, c, in_dic, hk, idx_dic, gk, lc, ad2, hz]
  · have ec : candO own l (orgO u v) (w.drop p) = none := by unfold candO; rw [if_neg c]
    rw [ec]
    simp [lFO1, lo, cu, c]
def minO (xs : List (List Nat)) : Option (List Nat) := match xs with
  | [] => none
  | [x] => some x
  | [x, y] => pickO (some x) (some y)
  | _ => none
theorem min_pick (x y : Option (List Nat)) : minO (x.toList ++ y.toList) = pickO x y := by
  cases x <;> cases y <;> rfl
theorem lc2F {x y : List Nat} {S : Sto} (lx : lenD [.str x] = some (.int x.length)) (ly : lenD [.str y] = some (.int y.length)) (x0 x1 x2 x3 x4 x5 x6 x7 : Option D) :
    lcLoop (fun _ S => .ok (.bl true) S) (ev Φ G eFO2) (.one 8) [x0, x1, x2, x3, x4, x5, x6, x7, none] [.str x, .str y] [] S = .ok (.lst [.int x.length, .int y.length]) S := by
  simp [lcLoop, eFO2, lx, ly]
theorem lc3F {x y : List Nat} {S : Sto} {mn : Int} {bx by' : Bool} (lx : lenD [.str x] = some (.int x.length)) (ly : lenD [.str y] = some (.int y.length)) (hx : decide ((x.length : Int) = mn) = bx) (hy : decide ((y.length : Int) = mn) = by') (x0 x1 x2 x3 x4 x5 x6 : Option D) :
    lcLoop (ev Φ G cFO3) (ev Φ G eFO3) (.one 8) [x0, x1, x2, x3, x4, x5, x6, some (.int mn), none] [.str x, .str y] [] S = .ok (.lst ((if bx = true then [.str x] else []) ++ (if by' = true then [.str y] else []))) S := by
  cases bx <;> cases by' <;> simp [lcLoop, cFO3, eFO3, lx, ly, hx, hy]
/-- the least one is put -/
theorem iFO_ok {P : Option D} {w : List Nat} {S : Sto} {n0 p : Nat} {x5 x6 x7 x8 : Option D} {es : List (Key × D)} {xs : List (List Nat)} {o : List Nat} (hx : minO xs = some o) (hw : ∀ x ∈ xs, Wd x ∧ x.length ≤ 1000) (he : es.length ≤ 1000) :
    ∃ y7, exSs Φ Φf G fuel n0 iFO [P, some (.str w), some (.loc S.length), some (.int p), some (stL xs), x5, x6, x7, x8] (S ++ [.dic es]) =
      .next [P, some (.str w), some (.loc S.length), some (.int p), some (stL xs), x5, x6, y7, x8] (S ++ [.dic (putKD es (.inl p) (enD o))]) := by
  have hz : szL = 16777216 := rfl
  have k1 : keyD (.int (p : Int)) = some (.inl (p : Int)) := rfl
  have he' : es.length < 16777216 := by omega
  unfold stL enD
  match xs, hx, hw with
  | [x], hx, hw =>
    have hx : x = o := Option.some.inj hx
    subst hx
    obtain ⟨w1, l1⟩ := hw x (by simp)
    have lo := lenS_of (s := x) (by omega)
    have m1 := min1S w1
    refine ⟨some (.int x.length), ?_⟩
    simp [iFO, eFO2, eFO3, cFO3, lcLoop, lo, min1I, m1, hz, k1, he']
  | [x, y], hx, hw =>
    obtain ⟨w1, l1⟩ := hw x (by simp)
    obtain ⟨w2, l2⟩ := hw y (by simp)
    have lx := lenS_of (s := x) (by omega)
    have ly := lenS_of (s := y) (by omega)
    have hx : (if pltB y x = true then some y else some x) = some o := hx
    have f2 := fun x0 x1 x2 x3 x4 x5 x6 x7 => lc2F (Φ := Φ) (G := G) (S := S ++ [.dic es]) lx ly x0 x1 x2 x3 x4 x5 x6 x7
    -- whichever stands in the list of the shortest
    have fin : ∀ (mn : Int) (zs : List D), mn = min (x.length : Int) y.length → (∀ x0 x1 x2 x3 x4 x5 x6, lcLoop (ev Φ G cFO3) (ev Φ G eFO3) (.one 8) [x0, x1, x2, x3, x4, x5, x6, some (.int mn), none] [.str x, .str y] [] (S ++ [.dic es]) = .ok (.lst zs) (S ++ [.dic es])) → minD [.lst zs] = some (.str o) →
        exSs Φ Φf G fuel n0 iFO [P, some (.str w), some (.loc S.length), some (.int p), some (.lst [.str x, .str y]), x5, x6, x7, x8] (S ++ [.dic es]) = .next [P, some (.str w), some (.loc S.length), some (.int p), some (.lst [.str x, .str y]), x5, x6, some (.int mn), x8] (S ++ [.dic (putKD es (.inl p) (.lst [.str o]))]) := by
      intro mn zs em f3 mz
      have e2 : minD [.lst [.int (x.length : Int), .int (y.length : Int)]] = some (.int mn) := by rw [min2I, em]
      simp [iFO, f2, e2, f3, mz, hz, k1, he']
    refine ⟨some (.int (min (x.length : Int) y.length)), fin _ _ rfl (fun x0 x1 x2 x3 x4 x5 x6 => lc3F lx ly rfl rfl x0 x1 x2 x3 x4 x5 x6) ?_⟩
    rcases Nat.lt_trichotomy x.length y.length with c | c | c
    · have e : pltB y x = false := by unfold pltB; rw [decide_eq_false]; omega
      rw [e, if_neg (by decide)] at hx
      have hx : x = o := Option.some.inj hx
      subst hx
      rw [decide_eq_true (show (x.length : Int) = min (x.length : Int) y.length by omega), decide_eq_false (show ¬ ((y.length : Int) = min (x.length : Int) y.length) by omega)]
      exact min1S w1
    · rw [decide_eq_true (show (x.length : Int) = min (x.length : Int) y.length by omega), decide_eq_true (show (y.length : Int) = min (x.length : Int) y.length by omega)]
      have q := min2S w1 w2
      have e : pltB y x = decide (y < x) := by
        unfold pltB
        by_cases h : y < x
        · rw [decide_eq_true h, decide_eq_true]; exact .inr ⟨c.symm, h⟩
        · rw [decide_eq_false h, decide_eq_false]; rintro (z | z)
          · omega
          · exact h z.2
      rw [e] at hx
      have : (if y < x then y else x) = o := by
        by_cases h : y < x
        · rw [decide_eq_true h, if_pos rfl] at hx; cases hx; rw [if_pos h]
        · rw [decide_eq_false h, if_neg (by decide)] at hx; cases hx; rw [if_neg h]
      rw [this] at q
      exact q
    · have e : pltB y x = true := by unfold pltB; rw [decide_eq_true]; exact .inl c
      rw [e, if_pos rfl] at hx
      have hx : y = o := Option.some.inj hx
      subst hx
      rw [decide_eq_false (show ¬ ((x.length : Int) = min (x.length : Int) y.length) by omega), decide_eq_true (show (y.length : Int) = min (x.length : Int) y.length by omega)]
      exact min1S w2
end
end EK

set_option Elab.async false
set_option linter.all false
set_option maxRecDepth 100000
set_option maxHeartbeats 4000000
namespace EK
open PySem L2 PySem.Spec PyProof.Rows
theorem cand_wd {u v w own : List Nat} {l p : Nat} (hu : 1 ≤ u.length) (hv : 1 ≤ v.length) (hl : l = 97 ∨ l = 98) : ∀ x ∈ (candO own l (orgO u v) (w.drop p)).toList, Wd x ∧ x.length ≤ w.length + 1 := by
  intro x hx
  rw [Option.mem_toList] at hx
  obtain ⟨r, _, h2, rfl⟩ := cand_some hx
  have s := org_sound hu hv _ _ r (Nat.le_refl _) h2
  have n := org_len hu hv h2
  rw [List.length_drop, List.length_drop] at n
  refine ⟨fun c hc => ?_, by rw [List.length_cons]; omega⟩
  rcases List.mem_cons.mp hc with rfl | hc
  · exact hl
  · exact s.2 c hc
section
variable {Φ Φf : Str → Option Fsem} {G : Str → Option D} {fuel : Nat}
theorem okA_strs {n : Nat} : ∀ {xs : List (List Nat)}, (∀ x ∈ xs, Wd x) → okA n (xs.map .str) = true
  | [], _ => by cases n <;> rfl
  | x :: xs, h => by
    rw [List.map_cons, okA, okD_str (h x (List.mem_cons_self ..)), okA_strs fun y hy => h y (List.mem_cons_of_mem _ hy)]; rfl
theorem fo_step {u v w : List Nat} {S : Sto} {n0 p : Nat} {x4 x5 x6 x7 x8 : Option D} {es : List (Key × D)} (r : Rp u v) (hw : w.length ≤ 400) (hp : p < w.length) (hd : DInv u v w es (p + 1)) :
    ∃ y4 y5 y6 y7 es', exSs Φ Φf G fuel n0 lFO [some (pd u v), some (.str w), some (.loc S.length), some (.int p), x4, x5, x6, x7, x8] (S ++ [.dic es]) =
      .next [some (pd u v), some (.str w), some (.loc S.length), some (.int p), y4, y5, y6, y7, x8] (S ++ [.dic es']) ∧ DInv u v w es' p := by
  have hu := r.u1
  have hv := r.v1
  have e1 := fo1 (Φ := Φ) (Φf := Φf) (G := G) (fuel := fuel) (P := some (pd u v)) (S := S) (n0 := n0) (l := 97) (own := u) (x7 := x7) (x8 := x8) (xs := []) hw r.u2 hu hp hd (by simp) hu hv
  have lA : (candO u 97 (orgO u v) (w.drop p)).toList.length ≤ 1 := by cases candO u 97 (orgO u v) (w.drop p) <;> simp
  have e2 := fo1 (Φ := Φ) (Φf := Φf) (G := G) (fuel := fuel) (P := some (pd u v)) (S := S) (n0 := n0) (l := 98) (own := v) (x7 := x7) (x8 := x8) (xs := (candO u 97 (orgO u v) (w.drop p)).toList) hw r.v2 hv hp hd (by omega) hu hv
  rw [List.nil_append] at e1
  have ne : w.drop p ≠ [] := by
    intro z
    have := congrArg List.length z
    rw [List.length_drop, List.length_nil] at this
    omega
  have oe := org_eq (u := u) (v := v) hu hv ne
  have wA := cand_wd (w := w) (own := u) (l := 97) (p := p) hu hv (.inl rfl)
  have wB := cand_wd (w := w) (own := v) (l := 98) (p := p) hu hv (.inr rfl)
  obtain ⟨xs, hxs⟩ : ∃ xs, xs = (candO u 97 (orgO u v) (w.drop p)).toList ++ (candO v 98 (orgO u v) (w.drop p)).toList := ⟨_, rfl⟩
  have mp : minO xs = orgO u v (w.drop p) := by rw [hxs, min_pick, ← oe]
  have ww : ∀ x ∈ xs, Wd x ∧ x.length ≤ 1000 := by
    intro x hx
    rw [hxs] at hx
    rcases List.mem_append.mp hx with h | h
    · exact ⟨(wA x h).1, by have := (wA x h).2; omega⟩
    · exact ⟨(wB x h).1, by have := (wB x h).2; omega⟩
  rw [← hxs] at e2
  have s1 : exS Φ Φf G fuel n0 (.set (.one 4) (.lst [])) [some (pd u v), some (.str w), some (.loc S.length), some (.int p), x4, x5, x6, x7, x8] (S ++ [.dic es]) = .next [some (pd u v), some (.str w), some (.loc S.length), some (.int p), some (stL []), x5, x6, x7, x8] (S ++ [.dic es]) := by
    simp [stL]
  have s2 : exS Φ Φf G fuel n0 (.loop (.many [5, 6]) .zip [.con (.str [97, 98]), .var 0] lFO1) [some (pd u v), some (.str w), some (.loc S.length), some (.int p), some (stL []), x5, x6, x7, x8] (S ++ [.dic es]) = .next [some (pd u v), some (.str w), some (.loc S.length), some (.int p), some (stL xs), some (.str [98]), some (.str v), x7, x8] (S ++ [.dic es]) := by
    generalize stL [] = L0 at *
    generalize stL (candO u 97 (orgO u v) (w.drop p)).toList = L1 at *
    generalize stL xs = L2 at *
    simp [zip_ab, loopN, e1, e2]
  unfold lFO
  rw [exSs, s1, then_next, exSs, s2, then_next]
  cases xs with
  | nil =>
    have mp : none = orgO u v (w.drop p) := mp
    refine ⟨some (stL []), some (.str [98]), some (.str v), x7, es, ?_, ⟨fun k hk => ?_, by have := hd.few; omega⟩⟩
    · have c : cmpD .NotEq (.lst []) (.lst []) = some (.bl false) := rfl
      simp [stL, c]
    · rw [hd.at_ k hk]
      by_cases h : k < p
      · rw [if_pos h, if_pos (by omega)]
      · rw [if_neg h]
        by_cases h2 : k = p
        · subst h2; rw [if_pos (by omega), ← mp]; rfl
        · rw [if_neg (by omega)]
  | cons x xs =>
    have c := ne_nilG (n := 1) (d := .str x) (xs := xs.map .str) (okA_strs (n := 0) (xs := x :: xs) fun y hy => (ww y hy).1) (by omega)
    cases o : orgO u v (w.drop p) with
    | none =>
      exfalso
      rw [o] at mp
      match xs, mp, hxs with
      | [], mp, _ => cases mp
      | [y], mp, _ =>
        have mp : (if pltB y x = true then some y else some x) = none := mp
        split at mp <;> cases mp
      | _ :: _ :: _, _, hxs =>
        have := congrArg List.length hxs
        rw [List.length_append] at this
        have lB : (candO v 98 (orgO u v) (w.drop p)).toList.length ≤ 1 := by cases candO v 98 (orgO u v) (w.drop p) <;> simp
        simp only [List.length_cons] at this
        omega
    | some o' =>
      rw [o] at mp
      obtain ⟨y7, e3⟩ := iFO_ok (Φ := Φ) (Φf := Φf) (G := G) (fuel := fuel) (P := some (pd u v)) (w := w) (S := S) (n0 := n0) (p := p) (x5 := some (.str [98])) (x6 := some (.str v)) (x7 := x7) (x8 := x8) (es := es) mp ww (by have := hd.few; omega)
      refine ⟨some (stL (x :: xs)), some (.str [98]), some (.str v), y7, putKD es (.inl p) (enD o'), ?_, ⟨fun k hk => ?_, ?_⟩⟩
      · have s3 : exS Φ Φf G fuel n0 (.ite (.cmp .NotEq (.var 4) (.lst [])) iFO []) [some (pd u v), some (.str w), some (.loc S.length), some (.int p), some (stL (x :: xs)), some (.str [98]), some (.str v), x7, x8] (S ++ [.dic es]) = .next [some (pd u v), some (.str w), some (.loc S.length), some (.int p), some (stL (x :: xs)), some (.str [98]), some (.str v), y7, x8] (S ++ [.dic (putKD es (.inl p) (enD o'))]) := by
          rw [← e3]
          have c' : cmpD .NotEq (stL (x :: xs)) (.lst []) = some (.bl true) := c
          have vn : ∀ T, vw T (stL (x :: xs)) = stL (x :: xs) := fun T => rfl
          generalize stL (x :: xs) = L3 at *
          simp [c', vn]
        rw [exSs, s3, then_next, exSs]
      · rw [getK_put]
        by_cases h : (Sum.inl (p : Int) : Key) = .inl (k : Int)
        · have : p = k := by injection h with h; omega
          subst this
          rw [if_pos rfl, if_neg (by omega), o]; rfl
        · rw [if_neg h, hd.at_ k hk]
          have : k ≠ p := fun z => h (by rw [z])
          by_cases h2 : k < p
          · rw [if_pos (by omega), if_pos h2]
          · rw [if_neg (by omega), if_neg h2]
      · have := put_len (es := es) (k := .inl (p : Int)) (d := enD o')
        have := hd.few
        omega
def FoOk (F : Fsem) : Prop := ∀ (u v w : List Nat) (S : Sto), Rp u v → w.length ≤ 400 → F [pd u v, .str w] S = .ok (stL (orgO u v w).toList) S
theorem foOk : FoOk (fsem Φ Φf G fuel 2 9 bFO) := by
  intro u v w S r hw
  have hz : szL = 16777216 := rfl
  have lw := lenS_of (s := w) (by omega)
  have it : itD .rng [.int ((w.length : Int) - 1), .int (-1), .int (-1)] = some (rngS ((w.length : Int) - 1) (-1) w.length) := it_rng3 (in62_iff.mpr ⟨by omega, by omega⟩) (by decide) (by omega)
  have d0 : DInv u v w [(.inl (w.length : Int), enD [])] w.length := by
    refine ⟨fun k hk => ?_, by simp; omega⟩
    by_cases h : k < w.length
    · rw [if_pos h]
      unfold getK
      rw [List.find?_cons]
      have : ¬ ((Sum.inl (w.length : Int) : Key) = .inl (k : Int)) := fun z => by injection z with z; omega
      dsimp only
      rw [decide_eq_false this]; rfl
    · have : k = w.length := by omega
      subst this
      rw [if_neg h, List.drop_length, org_nil]
      unfold getK
      rw [List.find?_cons]
      dsimp only
      rw [decide_eq_true rfl]; rfl
  have key : ∀ n0 : Nat, ∃ y3 y4 y5 y6 y7 es, loopN (exSs Φ Φf G fuel n0 lFO) (.one 3) (rngS ((w.length : Int) - 1) (-1) w.length) [some (pd u v), some (.str w), some (.loc S.length), none, none, none, none, none, none] (S ++ [.dic [(.inl (w.length : Int), enD [])]]) = .next [some (pd u v), some (.str w), some (.loc S.length), y3, y4, y5, y6, y7, none] (S ++ [.dic es]) ∧ DInv u v w es 0 := by
    intro n0
    refine loop0 (I := fun i Γ S' => i ≤ w.length ∧ ∃ y3 y4 y5 y6 y7 es, Γ = [some (pd u v), some (.str w), some (.loc S.length), y3, y4, y5, y6, y7, none] ∧ S' = S ++ [.dic es] ∧ DInv u v w es (w.length - i))
      (post := fun q => ∃ y3 y4 y5 y6 y7 es, q = .next [some (pd u v), some (.str w), some (.loc S.length), y3, y4, y5, y6, y7, none] (S ++ [.dic es]) ∧ DInv u v w es 0) ⟨by omega, none, none, none, none, none, _, rfl, rfl, d0⟩ ?_ ?_
    · rintro i x Γ S' hx ⟨hi, y3, y4, y5, y6, y7, es, rfl, rfl, hd⟩
      obtain ⟨h1, ex⟩ := rngSAt hx
      have ex : x = .int ((w.length - 1 - i : Nat) : Int) := by
        rw [ex]
        congr 1
        omega
      subst ex
      have q1 : w.length - i = w.length - 1 - i + 1 := by omega
      have q2 : w.length - 1 - i = w.length - (i + 1) := by omega
      rw [q1] at hd
      obtain ⟨z4, z5, z6, z7, es', e, hd'⟩ := fo_step (Φ := Φ) (Φf := Φf) (G := G) (fuel := fuel) (S := S) (n0 := n0) (p := w.length - 1 - i) (x4 := y4) (x5 := y5) (x6 := y6) (x7 := y7) (x8 := none) r hw (by omega) hd
      rw [q2] at hd'
      exact ⟨_, rfl, .inl ⟨_, _, e, by omega, _, z4, z5, z6, z7, es', rfl, rfl, hd'⟩⟩
    · rintro Γ S' ⟨hi, y3, y4, y5, y6, y7, es, rfl, rfl, hd⟩
      rw [rngS_len, Nat.sub_self] at hd
      exact ⟨y3, y4, y5, y6, y7, es, rfl, hd⟩
  obtain ⟨y3, y4, y5, y6, y7, es, k, hd⟩ := key S.length
  have g0 := hd.at_ 0 (by omega)
  rw [if_neg (by omega), List.drop_zero] at g0
  have dg : dgetD (.dic es) (.int 0) (.lst []) = some (stL (orgO u v w).toList) := by
    show some ((getK es (.inl ((0 : Nat) : Int))).getD (.lst [])) = _
    rw [g0]
    cases orgO u v w <;> rfl
  have k1 : keyD (.int (w.length : Int)) = some (.inl (w.length : Int)) := rfl
  have nl : outD S.length S (stL (orgO u v w).toList) = stL (orgO u v w).toList := rfl
  unfold enD at k
  generalize stL (orgO u v w).toList = L at *
  have di : ∀ es, isDic (.dic es) = true := fun _ => rfl
  simp [bFO, lw, hz, k1, it, k, dg, nl, di]
end
end EK

set_option Elab.async false
set_option linter.all false
set_option maxRecDepth 100000
set_option maxHeartbeats 4000000
namespace EK
open PySem L2 PySem.Spec PyProof.Rows
section
variable {Φ Φf : Str → Option Fsem} {G : Str → Option D} {fuel : Nat}
def bOrig : List CS := [.exp (.call "need_replacement" [.var 0]), .ret (.call "origin_in" [.var 0, .call "need_word" [.var 1]])]
def OrOk (F : Fsem) : Prop := ∀ (u v w : List Nat) (S : Sto), Rp u v → Wd w → w.length ≤ 400 → F [pd u v, .str w] S = .ok (oD (orgO u v w)) S
theorem orOk {Fr Fo Fw : Fsem} (er : Φ "need_replacement" = some Fr) (hr : NrOk Fr) (eo : Φ "origin_in" = some Fo) (ho : OiOk Fo) (ew : Φ "need_word" = some Fw) (hw : NwOk Fw) : OrOk (fsem Φ Φf G fuel 2 2 bOrig) := by
  intro u v w S r w1 w2
  have a1 := hr u v S r
  have a2 := hw w S w1 w2
  have a3 := ho u v w S r w2
  have on : outD S.length S (oD (orgO u v w)) = oD (orgO u v w) := outD_no oD_noLoc
  simp [bOrig, er, eo, ew, a1, a2, a3, on]
def bR15 : List CS := [.set (.one 2) (.call "_law_image" [.var 0, .var 1]), .set (.one 3) (.call "_law_first_origin" [.var 0, .var 2]),
  .ite (.or (.cmp .Eq (.var 3) (.lst [])) (.or (.cmp .NotEq (.call "_law_image" [.var 0, .idx (.var 3) (.con (.int 0))]) (.var 2)) (.or (.cmp .NotEq (.call "origin" [.var 0, .var 2]) (.idx (.var 3) (.con (.int 0)))) (.cmp .NotEq (.call "origin" [.var 0, .var 2]) (.idx (.var 3) (.con (.int 0))))))) [.ret (.con (.bl false))] [],
  .ret (.or (.cmp .Eq (.bin .Add (.idx (.var 0) (.con (.int 0))) (.idx (.var 0) (.con (.int 1)))) (.bin .Add (.idx (.var 0) (.con (.int 1))) (.idx (.var 0) (.con (.int 0))))) (.cmp .Eq (.idx (.var 3) (.con (.int 0))) (.var 1)))]
def R15 (F : Fsem) : Prop := ∀ (u v w : List Nat) (S : Sto), Rp u v → Wd w → (imgW u v w).length ≤ 400 → F [pd u v, .str w] S = .ok (.bl true) S
theorem eq_nilS {x : List Nat} (hx : Wd x) : cmpD .Eq (.lst [.str x]) (.lst []) = some (.bl false) := by
  have h := ne_nilG (n := 1) (d := .str x) (xs := []) (okA_strs (n := 0) (xs := [x]) fun y hy => by rw [List.mem_singleton.mp hy]; exact hx) (by omega)
  have h : (eqB (.lst [.str x]) (.lst [])).map (fun k => D.bl (!k)) = some (.bl true) := h
  show (eqB (.lst [.str x]) (.lst [])).map (fun k => D.bl k) = _
  cases q : eqB (.lst [.str x]) (.lst []) with
  | none => rw [q] at h; cases h
  | some b =>
    rw [q] at h
    cases b with
    | true => cases h
    | false => rfl
@[simp] theorem idx_l0 {x : D} {xs : List D} : idxD (.lst (x :: xs)) (.int 0) = some x := idx_nat (j := 0) rfl rfl
theorem r15 {Fi Ff Fo : Fsem} (ei : Φ "_law_image" = some Fi) (hi : LiOk Fi) (ef : Φ "_law_first_origin" = some Ff) (hf : FoOk Ff) (eo : Φ "origin" = some Fo) (ho : OrOk Fo) : R15 (fsem Φ Φf G fuel 2 4 bR15) := by
  intro u v w S r ww wl
  have hu := r.u1
  have hv := r.v1
  have l1 := hi u v w S ww (by omega)
  obtain ⟨o, e⟩ := org_full hu hv w ww
  obtain ⟨so, wo⟩ := org_sound hu hv _ _ o (Nat.le_refl _) e
  have f1 := hf u v (imgW u v w) S r wl
  rw [e] at f1
  have f1 : Ff [pd u v, .str (imgW u v w)] S = .ok (.lst [.str o]) S := f1
  have l2 := hi u v o S wo (by rw [so]; omega)
  rw [so] at l2
  have o1 := ho u v (imgW u v w) S r (imgW_wd r.wu r.wv w) wl
  rw [e] at o1
  have o1 : Fo [pd u v, .str (imgW u v w)] S = .ok (.str o) S := o1
  have c1 := eq_nilS wo
  have a1 := add_str (s := u) (t := v) (by have := r.u2; have := r.v2; show _ ≤ 16777216; omega)
  have a2 := add_str (s := v) (t := u) (by have := r.u2; have := r.v2; show _ ≤ 16777216; omega)
  have fin : u ++ v = v ++ u ∨ o = w := by
    by_cases h : u ++ v = v ++ u
    · exact .inl h
    · exact .inr (img_inj (by intro z; rw [z] at hu; simp at hu) (by intro z; rw [z] at hv; simp at hv) h o w wo ww so)
  generalize imgW u v w = T at *
  rcases fin with h | h
  · simp [bR15, ei, ef, eo, l1, f1, l2, o1, c1, ne_str, a1, a2, h]
  · subst h
    by_cases h2 : u ++ v = v ++ u
    · simp [bR15, ei, ef, eo, l1, f1, l2, o1, c1, ne_str, a1, a2, h2]
    · simp [bR15, ei, ef, eo, l1, f1, l2, o1, c1, ne_str, a1, a2, h2]
def bA15 : List CS := [.set (.one 2) (.call "_law_first_origin" [.var 0, .var 1]),
  .ret (.cmp .Eq (.call "origin" [.var 0, .var 1]) (.ite (.cmp .NotEq (.var 2) (.lst [])) (.idx (.var 2) (.con (.int 0))) (.con .non)))]
def A15 (F : Fsem) : Prop := ∀ (u v w : List Nat) (S : Sto), Rp u v → Wd w → w.length ≤ 400 → F [pd u v, .str w] S = .ok (.bl true) S
theorem a15 {Ff Fo : Fsem} (ef : Φ "_law_first_origin" = some Ff) (hf : FoOk Ff) (eo : Φ "origin" = some Fo) (ho : OrOk Fo) : A15 (fsem Φ Φf G fuel 2 3 bA15) := by
  intro u v w S r ww wl
  have f1 := hf u v w S r wl
  have o1 := ho u v w S r ww wl
  cases e : orgO u v w with
  | none =>
    rw [e] at f1 o1
    have f1 : Ff [pd u v, .str w] S = .ok (.lst []) S := f1
    have o1 : Fo [pd u v, .str w] S = .ok .non S := o1
    have c1 : cmpD .NotEq (.lst []) (.lst []) = some (.bl false) := rfl
    have c2 : cmpD .Eq .non .non = some (.bl true) := rfl
    simp [bA15, ef, eo, f1, o1, c1, c2]
  | some o =>
    rw [e] at f1 o1
    have wo := (org_sound r.u1 r.v1 _ _ o (Nat.le_refl _) e).2
    have f1 : Ff [pd u v, .str w] S = .ok (.lst [.str o]) S := f1
    have o1 : Fo [pd u v, .str w] S = .ok (.str o) S := o1
    have c1 := ne_nilG (n := 1) (d := .str o) (xs := []) (okA_strs (n := 0) (xs := [o]) fun y hy => by rw [List.mem_singleton.mp hy]; exact wo) (by omega)
    simp [bA15, ef, eo, f1, o1, c1]
end
end EK

set_option Elab.async false
set_option linter.all false
set_option maxRecDepth 100000
set_option maxHeartbeats 4000000
namespace EK
open PySem L2 PySem.Spec PyProof.Rows
theorem imgW_id : ∀ {w : List Nat}, Wd w → imgW [97] [98] w = w
  | [], _ => rfl
  | c :: w, h => by
    rw [imgW_cons, imgW_id fun x hx => h x (List.mem_cons_of_mem _ hx)]
    rcases h c (List.mem_cons_self ..) with rfl | rfl <;> rfl
theorem org_id {w : List Nat} (h : Wd w) : orgO [97] [98] w = some w := by
  obtain ⟨o, e⟩ := org_full (u := [97]) (v := [98]) (by simp) (by simp) w h
  rw [imgW_id h] at e
  obtain ⟨so, wo⟩ := org_sound (u := [97]) (v := [98]) (by simp) (by simp) _ _ o (Nat.le_refl _) e
  rw [imgW_id wo] at so
  rw [e, so]
section
variable {Φ Φf : Str → Option Fsem} {G : Str → Option D} {fuel : Nat}
def lL15b : List CS := [.ite (.and (.cmp .LtE (.blt .len [.var 8]) (.con (.int 400))) (.not (.call "_law_any_right" [.var 4, .var 8]))) [.ret (.con (.bl false))] []]
def t15 : CE := .tup [.sl (.var 6) (.con (.int 1)) (.con .non), .bin .Add (.bin .Add (.sl (.var 6) (.con .non) (.var 7)) (.con (.str [97]))) (.sl (.var 6) (.var 7) (.con .non)), .bin .Add (.sl (.var 6) (.con .non) (.var 7)) (.sl (.var 6) (.bin .Add (.var 7) (.con (.int 1))) (.con .non)), .bin .Add (.var 6) (.con (.str [98])), .call "_law_letters" [.var 1, .con (.int 9)]]
def lL15a : List CS := [.set (.one 4) (.call "_law_pair" [.var 1, .con (.int 5)]),
  .set (.one 5) (.call "_law_letters" [.var 1, .call "_law_of" [.var 1, .lst [.con (.int 0), .con (.int 1), .con (.int 2), .con (.int 7), .con (.int 15)]]]),
  .set (.one 6) (.call "_law_image" [.var 4, .var 5]),
  .ite (.cmp .Gt (.blt .len [.var 6]) (.con (.int 400))) [.set (.many [6, 5]) (.tup [.con (.str []), .con (.str [])])] []]
def lL15c : List CS := [.ite (.not (.call "_law_right" [.var 4, .var 5])) [.ret (.con (.bl false))] [],
  .set (.one 7) (.call "_law_draw" [.var 1, .bin .Add (.blt .len [.var 6]) (.con (.int 1))]),
  .loop (.one 8) .seq [t15] lL15b]
def lL15 : List CS := lL15a ++ lL15c
theorem exSs_app {n0 : Nat} : ∀ (xs ys : List CS) (Γ : Gam) (S : Sto), exSs Φ Φf G fuel n0 (xs ++ ys) Γ S = (exSs Φ Φf G fuel n0 xs Γ S).then fun Γ' S' => exSs Φ Φf G fuel n0 ys Γ' S'
  | [], ys, Γ, S => by rw [List.nil_append, exSs]; rfl
  | x :: xs, ys, Γ, S => by
    rw [List.cons_append, exSs, exSs]
    cases exS Φ Φf G fuel n0 x Γ S with
    | next Γ' S' => rw [then_next, then_next, exSs_app xs ys Γ' S']
    | ret d S' fr => rfl
    | ex c d Γ' S' => rfl
    | bad => rfl
def sizes15 : List D := [.int 0, .int 1, .int 2, .int 7, .int 15]
theorem lapA {Fp Fl Fo Fi : Fsem} (ep : Φ "_law_pair" = some Fp) (hp : LpOk Fp) (el : Φ "_law_letters" = some Fl) (hl : LtOk Fl) (eo : Φ "_law_of" = some Fo) (ho : OfOk Fo) (ei : Φ "_law_image" = some Fi) (hi : LiOk Fi)
    {b : Int} {S : Sto} {n0 : Nat} {A x2 x3 x4 x5 x6 x7 x8 : Option D} (h0 : DS b S) (hb : b < 2 ^ 37) :
    ∃ u v w S', exSs Φ Φf G fuel n0 lL15a [A, some (.loc 0), x2, x3, x4, x5, x6, x7, x8] S = .next [A, some (.loc 0), x2, x3, some (pd u v), some (.str w), some (.str (imgW u v w)), x7, x8] S' ∧ Rp u v ∧ Wd w ∧ (imgW u v w).length ≤ 400 ∧ DS (b + 1116) S' := by
  have hz : szL = 16777216 := rfl
  obtain ⟨u, v, S1, e1, r1, h1⟩ := hp b 5 S h0 (by omega) (by omega)
  obtain ⟨d, S3, d1, d2, h3⟩ := ho.1 (b + 1100) sizes15 S1 h1 (by omega) (by simp [sizes15]) (by simp [sizes15]) (by simp [sizes15])
  obtain ⟨n, rfl, hn⟩ : ∃ n : Nat, d = .int n ∧ n ≤ 15 := by
    simp only [sizes15, List.mem_cons, List.not_mem_nil, or_false] at d1
    rcases d1 with rfl | rfl | rfl | rfl | rfl
    · exact ⟨0, rfl, by omega⟩
    · exact ⟨1, rfl, by omega⟩
    · exact ⟨2, rfl, by omega⟩
    · exact ⟨7, rfl, by omega⟩
    · exact ⟨15, rfl, by omega⟩
  obtain ⟨w, S4, e4, w1, w2, h4⟩ := hl _ n S3 h3 (by omega) (by omega)
  have e1 : Fp [.loc 0, .int 5] S = .ok (pd u v) S1 := e1
  have il := imgW_len r1.u2 r1.v2 w
  have i1 := hi u v w S4 w1 (by omega)
  have l1 := lenS_of (s := imgW u v w) (by omega)
  unfold sizes15 at d2
  by_cases c : 400 < (imgW u v w).length
  · have c' : (400 : Int) < ((imgW u v w).length : Int) := by omega
    refine ⟨u, v, [], S4, ?_, r1, (fun x h => by cases h), by simp [imgW], h4.mono (by omega)⟩
    rw [imgW_nil]
    generalize imgW u v w = T at *
    simp [lL15a, ep, el, eo, ei, e1, d2, e4, i1, l1, c', hz]
  · have c' : ¬ ((400 : Int) < ((imgW u v w).length : Int)) := by omega
    refine ⟨u, v, w, S4, ?_, r1, w1, by omega, h4.mono (by omega)⟩
    generalize imgW u v w = T at *
    simp [lL15a, ep, el, eo, ei, e1, d2, e4, i1, l1, c', hz]
theorem any_body {Fa : Fsem} (ea : Φ "_law_any_right" = some Fa) (ha : A15 Fa) {S : Sto} {n0 : Nat} {x0 x1 x2 x3 x5 x6 x7 : Option D} {u v x : List Nat} (r : Rp u v) (wx : Wd x) (lx : x.length ≤ 1000) :
    exSs Φ Φf G fuel n0 lL15b [x0, x1, x2, x3, some (pd u v), x5, x6, x7, some (.str x)] S = .next [x0, x1, x2, x3, some (pd u v), x5, x6, x7, some (.str x)] S := by
  have l := lenS_of (s := x) (by omega)
  by_cases c : 400 < x.length
  · have c' : (400 : Int) < (x.length : Int) := by omega
    simp [lL15b, l, c']
  · have c' : ¬ (400 : Int) < (x.length : Int) := by omega
    have a := ha u v x S r wx (by omega)
    simp [lL15b, l, c', ea, a]
theorem lapC {Fr Fd Fl Fa : Fsem} (er : Φ "_law_right" = some Fr) (hr : R15 Fr) (ed : Φ "_law_draw" = some Fd) (hd : DrawOk Fd) (el : Φ "_law_letters" = some Fl) (hl : LtOk Fl) (ea : Φ "_law_any_right" = some Fa) (ha : A15 Fa)
    {b : Int} {S : Sto} {n0 : Nat} {A x2 x3 x7 x8 : Option D} {u v w : List Nat} (r : Rp u v) (ww : Wd w) (wl : (imgW u v w).length ≤ 400) (h0 : DS b S) (hb : b < 2 ^ 38) :
    ∃ y7 y8 S', exSs Φ Φf G fuel n0 lL15c [A, some (.loc 0), x2, x3, some (pd u v), some (.str w), some (.str (imgW u v w)), x7, x8] S = .next [A, some (.loc 0), x2, x3, some (pd u v), some (.str w), some (.str (imgW u v w)), y7, y8] S' ∧ DS (b + 10) S' := by
  have hz : szL = 16777216 := rfl
  have rr := hr u v w S r ww wl
  have wT := imgW_wd r.wu r.wv w
  generalize imgW u v w = T at *
  have l1 := lenS_of (s := T) (by omega)
  obtain ⟨q, S1, e1, q0, q1, h1⟩ := hd b ((T.length : Int) + 1) S h0 (by omega) (by omega) (by omega)
  obtain ⟨s, rfl⟩ := Int.eq_ofNat_of_zero_le q0
  obtain ⟨z, S2, e2, z1, z2, h2⟩ := hl (b + 1) 9 S1 h1 (by omega) (by omega)
  have e2 : Fl [.loc 0, .int 9] S1 = .ok (.str z) S2 := e2
  have a1 : slD (.str T) (some 1) none = some (.str (T.drop 1)) := sl_from (by omega) rfl
  have a2 : slD (.str T) none (some (s : Int)) = some (.str (T.take s)) := sl_to (by omega) rfl
  have a3 : slD (.str T) (some (s : Int)) none = some (.str (T.drop s)) := sl_from (by omega) rfl
  have a4 : slD (.str T) (some ((s : Int) + 1)) none = some (.str (T.drop (s + 1))) := sl_from (by omega) (by omega)
  have tl : (T.take s).length ≤ 400 := by rw [List.length_take]; omega
  have dl : (T.drop s).length ≤ 400 := by rw [List.length_drop]; omega
  have dl2 : (T.drop (s + 1)).length ≤ 400 := by rw [List.length_drop]; omega
  have b1 := add_str (s := T.take s) (t := [97]) (by rw [hz]; simp only [List.length_singleton]; omega)
  have b2 := add_str (s := T.take s ++ [97]) (t := T.drop s) (by rw [hz, List.length_append]; simp only [List.length_singleton]; omega)
  have b3 := add_str (s := T.take s) (t := T.drop (s + 1)) (by omega)
  have b4 := add_str (s := T) (t := [98]) (by rw [hz]; simp only [List.length_singleton]; omega)
  have xs : ∀ x ∈ [T.drop 1, T.take s ++ [97] ++ T.drop s, T.take s ++ T.drop (s + 1), T ++ [98], z], Wd x ∧ x.length ≤ 1000 := by
    intro x hx
    simp only [List.mem_cons, List.not_mem_nil, or_false] at hx
    rcases hx with rfl | rfl | rfl | rfl | rfl
    · exact ⟨wd_drop wT _, by rw [List.length_drop]; omega⟩
    · exact ⟨wd_app (wd_app (wd_take wT _) (wdB_ok rfl)) (wd_drop wT _), by rw [List.length_append, List.length_append]; simp only [List.length_singleton]; omega⟩
    · exact ⟨wd_app (wd_take wT _) (wd_drop wT _), by rw [List.length_append]; omega⟩
    · exact ⟨wd_app wT (wdB_ok rfl), by rw [List.length_append]; simp only [List.length_singleton]; omega⟩
    · exact ⟨z1, by omega⟩
  generalize T.take s ++ [97] ++ T.drop s = X2 at *
  generalize T.take s ++ [97] = X1 at *
  generalize T.take s ++ T.drop (s + 1) = X3 at *
  generalize T ++ [98] = X4 at *
  generalize T.drop 1 = X0 at *
  have tp : ∀ x8 : Option D, ev Φ G t15 [A, some (.loc 0), x2, x3, some (pd u v), some (.str w), some (.str T), some (.int s), x8] S1 = .ok (.tup [.str X0, .str X2, .str X3, .str X4, .str z]) S2 := by
    intro x8
    simp [t15, a1, a2, a3, a4, b1, b2, b3, b4, el, e2, hz]
  have lp : ∃ y8, loopN (exSs Φ Φf G fuel n0 lL15b) (.one 8) [.str X0, .str X2, .str X3, .str X4, .str z] [A, some (.loc 0), x2, x3, some (pd u v), some (.str w), some (.str T), some (.int s), x8] S2 = .next [A, some (.loc 0), x2, x3, some (pd u v), some (.str w), some (.str T), some (.int s), y8] S2 := by
    refine loop0 (I := fun i Γ S' => S' = S2 ∧ ∃ y8, Γ = [A, some (.loc 0), x2, x3, some (pd u v), some (.str w), some (.str T), some (.int s), y8]) (post := fun q => ∃ y8, q = .next [A, some (.loc 0), x2, x3, some (pd u v), some (.str w), some (.str T), some (.int s), y8] S2) ⟨rfl, x8, rfl⟩ ?_ ?_
    · rintro i x Γ S' hx ⟨rfl, y8, rfl⟩
      have hm : x ∈ ([X0, X2, X3, X4, z].map D.str) := List.mem_of_getElem? hx
      obtain ⟨x', hx', rfl⟩ := List.mem_map.mp hm
      obtain ⟨w1, w2⟩ := xs x' hx'
      exact ⟨_, rfl, .inl ⟨_, S', any_body ea ha r w1 w2, rfl, _, rfl⟩⟩
    · rintro Γ S' ⟨rfl, y8, rfl⟩
      exact ⟨y8, rfl⟩
  obtain ⟨y8, lp⟩ := lp
  refine ⟨some (.int s), y8, S2, ?_, h2.mono (by omega)⟩
  simp [lL15c, er, rr, l1, ed, e1, tp, lp]
def AB2 : List Nat := (List.replicate 200 [97, 98]).flatten
def cO (u v w : List Nat) : CE := .call "origin" [.tup [.con (.str u), .con (.str v)], .con (.str w)]
def due15 : List D := [.str [97, 98, 97, 97, 98], .str [97, 98, 98], .str [97, 97, 98], .non, .non, .str [97, 97], .str [97, 97], .str []]
def bRest15 : List CS := [.set (.one 3) (.lst [cO [97, 98] [97] [97, 98, 97, 97, 98, 97, 98, 97], cO [97] [97, 97] [97, 97, 97, 97, 97], cO [97, 97] [97] [97, 97, 97, 97, 97], cO [97, 98] [98] [97]]),
  .set (.one 3) (.bin .Add (.var 3) (.lst [cO [97, 97] [97, 97, 97] [97], cO [97, 97, 97] [97, 97] [97, 97, 97, 97, 97, 97], cO [97, 98] [97, 98] [97, 98, 97, 98], cO [97] [98] []])),
  .ret (.and (.cmp .Eq (.var 3) (.lst [.con (.str [97, 98, 97, 97, 98]), .con (.str [97, 98, 98]), .con (.str [97, 97, 98]), .con .non, .con .non, .con (.str [97, 97]), .con (.str [97, 97]), .con (.str [])])) (.cmp .Eq (.call "origin" [.tup [.con (.str [97]), .con (.str [98])], .bin .Mult (.con (.str [97, 98])) (.con (.int 200))]) (.bin .Mult (.con (.str [97, 98])) (.con (.int 200)))))]
theorem rpB {u v : List Nat} (h : (wdB u && wdB v && Nat.ble 1 u.length && Nat.ble u.length 60 && Nat.ble 1 v.length && Nat.ble v.length 60) = true) : Rp u v := by
  simp only [Bool.and_eq_true] at h
  obtain ⟨⟨⟨⟨⟨h1, h2⟩, h3⟩, h4⟩, h5⟩, h6⟩ := h
  exact ⟨wdB_ok h1, wdB_ok h2, Nat.le_of_ble_eq_true h3, Nat.le_of_ble_eq_true h4, Nat.le_of_ble_eq_true h5, Nat.le_of_ble_eq_true h6⟩
theorem co_ok {Fo : Fsem} (eo : Φ "origin" = some Fo) (ho : OrOk Fo) {u v w : List Nat} {Γ : Gam} {S : Sto} {o : Option (List Nat)} (r : Rp u v) (ww : Wd w) (wl : w.length ≤ 400) (e : orgO u v w = o) : ev Φ G (cO u v w) Γ S = .ok (oD o) S := by
  have h := ho u v w S r ww wl
  rw [e] at h
  have hz : szL = 16777216 := rfl
  simp [cO, eo, h, hz]
theorem rest15 {Fo : Fsem} (eo : Φ "origin" = some Fo) (ho : OrOk Fo) {x0 x1 x2 x4 x5 x6 x7 x8 : Option D} : exSs Φ Φf G fuel 0 bRest15 [x0, x1, x2, none, x4, x5, x6, x7, x8] [] = .ret (.bl true) [] false := by
  have hz : szL = 16777216 := rfl
  have q1 : ∀ Γ, ev Φ G (cO [97, 98] [97] [97, 98, 97, 97, 98, 97, 98, 97]) Γ [] = .ok (.str [97, 98, 97, 97, 98]) [] := fun Γ => co_ok (o := some [97, 98, 97, 97, 98]) eo ho (rpB (by decide)) (wdB_ok (by decide)) (by decide) (by decide +kernel)
  have q2 : ∀ Γ, ev Φ G (cO [97] [97, 97] [97, 97, 97, 97, 97]) Γ [] = .ok (.str [97, 98, 98]) [] := fun Γ => co_ok (o := some [97, 98, 98]) eo ho (rpB (by decide)) (wdB_ok (by decide)) (by decide) (by decide +kernel)
  have q3 : ∀ Γ, ev Φ G (cO [97, 97] [97] [97, 97, 97, 97, 97]) Γ [] = .ok (.str [97, 97, 98]) [] := fun Γ => co_ok (o := some [97, 97, 98]) eo ho (rpB (by decide)) (wdB_ok (by decide)) (by decide) (by decide +kernel)
  have q4 : ∀ Γ, ev Φ G (cO [97, 98] [98] [97]) Γ [] = .ok .non [] := fun Γ => co_ok (o := none) eo ho (rpB (by decide)) (wdB_ok (by decide)) (by decide) (by decide +kernel)
  have q5 : ∀ Γ, ev Φ G (cO [97, 97] [97, 97, 97] [97]) Γ [] = .ok .non [] := fun Γ => co_ok (o := none) eo ho (rpB (by decide)) (wdB_ok (by decide)) (by decide) (by decide +kernel)
  have q6 : ∀ Γ, ev Φ G (cO [97, 97, 97] [97, 97] [97, 97, 97, 97, 97, 97]) Γ [] = .ok (.str [97, 97]) [] := fun Γ => co_ok (o := some [97, 97]) eo ho (rpB (by decide)) (wdB_ok (by decide)) (by decide) (by decide +kernel)
  have q7 : ∀ Γ, ev Φ G (cO [97, 98] [97, 98] [97, 98, 97, 98]) Γ [] = .ok (.str [97, 97]) [] := fun Γ => co_ok (o := some [97, 97]) eo ho (rpB (by decide)) (wdB_ok (by decide)) (by decide) (by decide +kernel)
  have q8 : ∀ Γ, ev Φ G (cO [97] [98] []) Γ [] = .ok (.str []) [] := fun Γ => co_ok (o := some []) eo ho (rpB (by decide)) (wdB_ok (by decide)) (by decide) (by decide +kernel)
  have m3 : mulD (.str [97, 98]) (.int 200) = some (.str AB2) := mul_str (k := 200) rfl (by omega) (by omega) (by simp)
  have wAB : Wd AB2 := wdB_ok (by decide +kernel)
  have o9 := ho [97] [98] AB2 [] (rpB (by decide)) wAB (by decide +kernel)
  rw [org_id wAB] at o9
  have o9 : Fo [pd [97] [98], .str AB2] [] = .ok (.str AB2) [] := o9
  have e1 := ceq_ok (n := 2) (d := .lst due15) (by decide +kernel) (by omega)
  have ad : addD (.lst [.str [97, 98, 97, 97, 98], .str [97, 98, 98], .str [97, 97, 98], .non]) (.lst [.non, .str [97, 97], .str [97, 97], .str []]) = some (.lst due15) := addL (by rw [hz]; decide)
  have dd : (D.lst [.str [97, 98, 97, 97, 98], .str [97, 98, 98], .str [97, 97, 98], .non, .non, .str [97, 97], .str [97, 97], .str []]) = .lst due15 := rfl
  generalize AB2 = C at *
  have s1 : exS Φ Φf G fuel 0 (.set (.one 3) (.lst [cO [97, 98] [97] [97, 98, 97, 97, 98, 97, 98, 97], cO [97] [97, 97] [97, 97, 97, 97, 97], cO [97, 97] [97] [97, 97, 97, 97, 97], cO [97, 98] [98] [97]])) [x0, x1, x2, none, x4, x5, x6, x7, x8] [] = .next [x0, x1, x2, some (.lst [.str [97, 98, 97, 97, 98], .str [97, 98, 98], .str [97, 97, 98], .non]), x4, x5, x6, x7, x8] [] := by
    simp [q1, q2, q3, q4, hz]
  have s2 : exS Φ Φf G fuel 0 (.set (.one 3) (.bin .Add (.var 3) (.lst [cO [97, 97] [97, 97, 97] [97], cO [97, 97, 97] [97, 97] [97, 97, 97, 97, 97, 97], cO [97, 98] [97, 98] [97, 98, 97, 98], cO [97] [98] []]))) [x0, x1, x2, some (.lst [.str [97, 98, 97, 97, 98], .str [97, 98, 98], .str [97, 97, 98], .non]), x4, x5, x6, x7, x8] [] = .next [x0, x1, x2, some (.lst due15), x4, x5, x6, x7, x8] [] := by
    simp [q5, q6, q7, q8, hz, ad]
  unfold bRest15
  rw [exSs, s1, then_next, exSs, s2, then_next]
  simp [hz, dd, e1, eo, m3, o9]
def iLaw15 : CE := .bin .Add (.con (.int 6)) (.blt .min [.blt .len [.var 0], .con (.int 10)])
theorem law15_gen {Fb : Fsem} {A : D} {es es' : List (Key × D)} {m : Nat} {y2 y4 y5 y6 y7 y8 : Option D} (pb : Φf "_law_begun" = some Fb) (hb : Fb [A] [] = .ok (.dic es) [])
    (hm : ev Φ G iLaw15 [some A, some (.loc 0), none, none, none, none, none, none, none] [.dic es] = .ok (.int m) [.dic es]) (hi : itD .rng [.int m] = some (rngL 0 m))
    (e : loopN (exSs Φ Φf G fuel 0 lL15) (.one 2) (rngL 0 m) [some A, some (.loc 0), none, none, none, none, none, none, none] [.dic es] = .next [some A, some (.loc 0), y2, none, y4, y5, y6, y7, y8] [.dic es'])
    (tr : ∀ x0 x1 x2 x4 x5 x6 x7 x8, exSs Φ Φf G fuel 0 bRest15 [x0, x1, x2, none, x4, x5, x6, x7, x8] [] = .ret (.bl true) [] false) :
    fsem Φ Φf G fuel 1 9 (.own 1 (.call "_law_begun" [.var 0]) :: .loop (.one 2) .rng [iLaw15] lL15 :: .frz 1 :: bRest15) [A] [] = .ok (.bl true) [] := by
  simp [pb, hb, hm, hi, e, tr]
end
end EK

set_option Elab.async false
set_option linter.all false
set_option maxRecDepth 100000
set_option maxHeartbeats 4000000
namespace EK
open PySem L2 PySem.Spec PyProof.Rows
/-! ### even words go along lines -/
theorem win_add {w : List Nat} {s t p : Nat} : win w (s + t) p = win w s p + win w t (p + s) := by
  unfold win
  have : p + (s + t) = p + s + t := by omega
  rw [this]; omega
theorem bal {w : List Nat} (h : NoU w) {s p q : Nat} (hs : 1 ≤ s) (hp : p + s ≤ w.length) (hq : q + s ≤ w.length) : win w s p ≤ win w s q + 1 := by
  by_cases c : s < w.length
  · have := h s hs c
    apply Int.not_lt.mp
    intro z
    exact this ⟨p, q, hp, hq, by omega⟩
  · have e1 : p = 0 := by omega
    have e2 : q = 0 := by omega
    subst e1 e2
    omega
/-- of any two parts: the one's weight less 1, the other one's and 1, by their sizes -/
theorem slopes {w : List Nat} (h : NoU w) : ∀ (n s t p q : Nat), s + t ≤ n → 1 ≤ s → 1 ≤ t → p + s ≤ w.length → q + t ≤ w.length → (win w s p - 1) * (t : Int) < (win w t q + 1) * (s : Int)
  | 0, s, t, p, q, hn, hs, ht, _, _ => by omega
  | n + 1, s, t, p, q, hn, hs, ht, hp, hq => by
    rcases Nat.lt_trichotomy s t with c | c | c
    · obtain ⟨r, rfl⟩ : ∃ r, t = s + r := ⟨t - s, by omega⟩
      have b := bal h hs hp (show q + s ≤ w.length by omega)
      have ih := slopes h n s r p (q + s) (by omega) hs (by omega) hp (by omega)
      rw [win_add]
      have e1 : (win w s p - 1) * ((s + r : Nat) : Int) = (win w s p - 1) * (s : Int) + (win w s p - 1) * (r : Int) := by
        rw [Int.natCast_add, Int.mul_add]
      have e2 : (win w s q + win w r (q + s) + 1) * (s : Int) = win w s q * (s : Int) + (win w r (q + s) + 1) * (s : Int) := by
        rw [Int.add_assoc, Int.add_mul]
      rw [e1, e2]
      have e3 : (win w s p - 1) * (s : Int) ≤ win w s q * (s : Int) := Int.mul_le_mul_of_nonneg_right (by omega) (by omega)
      omega
    · subst c
      have b := bal h hs hp hq
      exact Int.mul_lt_mul_of_pos_right (by omega) (by omega)
    · obtain ⟨r, rfl⟩ : ∃ r, s = t + r := ⟨s - t, by omega⟩
      have b := bal h ht (show p + t ≤ w.length by omega) hq
      have ih := slopes h n r t (p + t) q (by omega) (by omega) ht (by omega) hq
      rw [win_add]
      have e1 : (win w t p + win w r (p + t) - 1) * (t : Int) = win w t p * (t : Int) + (win w r (p + t) - 1) * (t : Int) := by
        have : win w t p + win w r (p + t) - 1 = win w t p + (win w r (p + t) - 1) := by omega
        rw [this, Int.add_mul]
      have e2 : (win w t q + 1) * ((t + r : Nat) : Int) = (win w t q + 1) * (t : Int) + (win w t q + 1) * (r : Int) := by
        rw [Int.natCast_add, Int.mul_add]
      rw [e1, e2]
      have e3 : win w t p * (t : Int) ≤ (win w t q + 1) * (t : Int) := Int.mul_le_mul_of_nonneg_right (by omega) (by omega)
      omega
/-- a quotient P / Q that lies between all bounds -/
structure MidS (w : List Nat) (P Q : Int) : Prop where
  q1 : 1 ≤ Q
  lo : ∀ s p : Nat, 1 ≤ s → p + s ≤ w.length → (win w s p - 1) * Q < P * (s : Int)
  hi : ∀ s p : Nat, 1 ≤ s → p + s ≤ w.length → P * (s : Int) < (win w s p + 1) * Q
/-- the starts: the greatest of all Q * height - P * place -/
theorem mid_line {w : List Nat} {P Q R : Int} (m : MidS w P Q) (hR : ∀ k : Nat, k ≤ w.length → Q * cnt w k - P * (k : Int) ≤ R) (hj : ∃ j : Nat, j ≤ w.length ∧ R = Q * cnt w j - P * (j : Int)) : 0 ≤ R ∧ R < Q ∧ ∀ k : Nat, k ≤ w.length → (P * (k : Int) + R) / Q = cnt w k := by
  have key : ∀ k : Nat, k ≤ w.length → R < Q * cnt w k + Q - P * (k : Int) := by
    intro k hk
    obtain ⟨j, hj, rfl⟩ := hj
    rcases Nat.lt_trichotomy j k with c | c | c
    · have h := m.hi (k - j) j (by omega) (by omega)
      unfold win at h
      have e : j + (k - j) = k := by omega
      rw [e] at h
      have e2 : P * ((k - j : Nat) : Int) = P * (k : Int) - P * (j : Int) := by
        rw [Int.natCast_sub (by omega), Int.mul_sub]
      have e3 : (cnt w k - cnt w j + 1) * Q = Q * cnt w k - Q * cnt w j + Q := by
        rw [Int.mul_comm, Int.mul_add, Int.mul_sub, Int.mul_one]
      rw [e2, e3] at h
      omega
    · subst c
      have := m.q1
      omega
    · have h := m.lo (j - k) k (by omega) (by omega)
      unfold win at h
      have e : k + (j - k) = j := by omega
      rw [e] at h
      have e2 : P * ((j - k : Nat) : Int) = P * (j : Int) - P * (k : Int) := by
        rw [Int.natCast_sub (by omega), Int.mul_sub]
      have e3 : (cnt w j - cnt w k - 1) * Q = Q * cnt w j - Q * cnt w k - Q := by
        rw [Int.mul_comm, Int.mul_sub, Int.mul_sub, Int.mul_one]
      rw [e2, e3] at h
      omega
  have z : cnt w 0 = 0 := cnt_zero ..
  have k0 := key 0 (by omega)
  have r0 := hR 0 (by omega)
  rw [z] at k0 r0
  refine ⟨by simpa using r0, by simpa using k0, fun k hk => ?_⟩
  have h1 := hR k hk
  have h2 := key k hk
  have q := m.q1
  apply Int.le_antisymm
  · have : P * (k : Int) + R < (cnt w k + 1) * Q := by
      rw [Int.add_mul, Int.one_mul, Int.mul_comm (cnt w k) Q]; omega
    have := Int.ediv_lt_of_lt_mul (by omega) this
    omega
  · apply Int.le_ediv_of_mul_le (by omega)
    rw [Int.mul_comm (cnt w k) Q]; omega
/-! ### the way between two quotients -/
theorem sb_bound {a b c d lp lq hp hq : Int} (ha : a * lq ≤ lp * b) (hc : hp * d ≤ c * hq) (e : c * b - a * d = 1) (hl : 1 ≤ hp * lq - lp * hq) (b1 : 1 ≤ b) (d1 : 1 ≤ d) (l1 : 1 ≤ lq) (h1 : 1 ≤ hq) : b * d ≤ lq * hq := by
  have x1 : (hp * d) * (lq * b) ≤ (c * hq) * (lq * b) := Int.mul_le_mul_of_nonneg_right hc (Int.mul_nonneg (by omega) (by omega))
  have x2 : (a * lq) * (hq * d) ≤ (lp * b) * (hq * d) := Int.mul_le_mul_of_nonneg_right ha (Int.mul_nonneg (by omega) (by omega))
  have x3 : 1 * (b * d) ≤ (hp * lq - lp * hq) * (b * d) := Int.mul_le_mul_of_nonneg_right hl (Int.mul_nonneg (by omega) (by omega))
  have y1 : (hp * lq - lp * hq) * (b * d) = (hp * d) * (lq * b) - (lp * b) * (hq * d) := by
    rw [Int.sub_mul]
    have p1 : hp * lq * (b * d) = (hp * d) * (lq * b) := by ac_rfl
    have p2 : lp * hq * (b * d) = (lp * b) * (hq * d) := by ac_rfl
    rw [p1, p2]
  have y2 : (c * hq) * (lq * b) - (a * lq) * (hq * d) = lq * hq * (c * b - a * d) := by
    rw [Int.mul_sub]
    have p1 : (c * hq) * (lq * b) = lq * hq * (c * b) := by ac_rfl
    have p2 : (a * lq) * (hq * d) = lq * hq * (a * d) := by ac_rfl
    rw [p1, p2]
  rw [e, Int.mul_one] at y2
  rw [Int.one_mul] at x3
  omega
end EK

set_option Elab.async false
set_option linter.all false
set_option maxRecDepth 100000
set_option maxHeartbeats 4000000
namespace EK
open PySem L2 PySem.Spec PyProof.Rows
/-! ### while -/
theorem while_ind {cond : Gam → Sto → R} {body : Gam → Sto → SR} {post : SR → Prop} (I : Nat → Gam → Sto → Prop) (N : Nat)
    (h : ∀ i Γ S, i < N → I i Γ S → ((∃ S1, cond Γ S = .ok (.bl true) S1 ∧ ((∃ Γ2 S2, body Γ S1 = .next Γ2 S2 ∧ I (i + 1) Γ2 S2) ∨ ∃ d S2 fr, body Γ S1 = .ret d S2 fr ∧ post (.ret d S2 fr))) ∨ ∃ S1, cond Γ S = .ok (.bl false) S1 ∧ post (.next Γ S1)))
    (hN : ∀ Γ S, ¬ I N Γ S) : ∀ (k i : Nat) (fuel : Nat) (Γ : Gam) (S : Sto), i + k = N → k ≤ fuel → I i Γ S → post (whileN cond body fuel Γ S)
  | 0, i, fuel, Γ, S, e, _, hI => by
    have : i = N := by omega
    subst this
    exact absurd hI (hN Γ S)
  | k + 1, i, 0, Γ, S, e, hf, hI => by omega
  | k + 1, i, fuel + 1, Γ, S, e, hf, hI => by
    unfold whileN
    rcases h i Γ S (by omega) hI with ⟨S1, c, q⟩ | ⟨S1, c, q⟩
    · rw [c]
      show post ((body Γ S1).then fun Γ2 S2 => whileN cond body fuel Γ2 S2)
      rcases q with ⟨Γ2, S2, b, q⟩ | ⟨d, S2, fr, b, q⟩
      · rw [b]
        exact while_ind I N h hN k (i + 1) fuel Γ2 S2 (by omega) (by omega) q
      · rw [b]; exact q
    · rw [c]; exact q
def qD (p q : Int) : D := .tup [.int p, .int q]
section
variable {Φ Φf : Str → Option Fsem} {G : Str → Option D} {fuel : Nat}
def bLess : List CS := [.ret (.cmp .Lt (.bin .Mult (.idx (.var 0) (.con (.int 0))) (.idx (.var 1) (.con (.int 1)))) (.bin .Mult (.idx (.var 1) (.con (.int 0))) (.idx (.var 0) (.con (.int 1)))))]
def LsOk (F : Fsem) : Prop := ∀ (a b c d : Int) (S : Sto), 0 ≤ b → b < 2 ^ 60 → 0 ≤ d → d < 2 ^ 60 → F [qD a b, qD c d] S = .ok (.bl (decide (a * d < c * b))) S
theorem lsOk : LsOk (fsem Φ Φf G fuel 2 2 bLess) := by
  intro a b c d S h1 h2 h3 h4
  have m1 := mul_r (i := a) (j := d) (small_of h3 (by omega))
  have m2 := mul_r (i := c) (j := b) (small_of h1 (by omega))
  simp [bLess, qD, m1, m2]
def lBetw : List CS := [.set (.one 4) (.tup [.bin .Add (.idx (.var 2) (.con (.int 0))) (.idx (.var 3) (.con (.int 0))), .bin .Add (.idx (.var 2) (.con (.int 1))) (.idx (.var 3) (.con (.int 1)))]),
  .ite (.not (.call "is_less" [.var 0, .var 4])) [.set (.one 2) (.var 4)] [.ite (.not (.call "is_less" [.var 4, .var 1])) [.set (.one 3) (.var 4)] [.ret (.var 4)]]]
def bBetw : List CS := [.ite (.cmp .Lt (.idx (.var 0) (.con (.int 0))) (.con (.int 0))) [.ret (.tup [.con (.int 0), .con (.int 1)])] [],
  .ite (.cmp .Gt (.idx (.var 1) (.con (.int 0))) (.idx (.var 1) (.con (.int 1)))) [.ret (.tup [.con (.int 1), .con (.int 1)])] [],
  .set (.many [2, 3]) (.tup [.tup [.con (.int 0), .con (.int 1)], .tup [.con (.int 1), .con (.int 1)]]),
  .while (.con (.bl true)) lBetw]
/-- the answer lies between, from 0 to 1 -/
def BtOk (F : Fsem) : Prop := ∀ (lp lq hp hq : Int) (S : Sto), 1 ≤ lq → lq ≤ 900 → 1 ≤ hq → hq ≤ 900 → lp * hq < hp * lq → lp < lq → 0 < hp →
  ∃ P Q, F [qD lp lq, qD hp hq] S = .ok (qD P Q) S ∧ 1 ≤ Q ∧ Q ≤ 2000000 ∧ 0 ≤ P ∧ P ≤ Q ∧ lp * Q < P * lq ∧ P * hq < hp * Q
theorem btOk {F : Fsem} (e : Φ "is_less" = some F) (h : LsOk F) (hfu : 900000 ≤ fuel) : BtOk (fsem Φ Φf G fuel 2 5 bBetw) := by
  intro lp lq hp hq S l1 l2 h1 h2 hlt hl1 hh0
  have hz : szL = 16777216 := rfl
  by_cases c1 : lp < 0
  · refine ⟨0, 1, ?_, by omega, by omega, by omega, by omega, by omega, by omega⟩
    simp [bBetw, qD, c1, hz]
  · by_cases c2 : hq < hp
    · refine ⟨1, 1, ?_, by omega, by omega, by omega, by omega, by omega, by omega⟩
      simp [bBetw, qD, c1, c2, hz]
    · -- from 0 to 1
      have key : ∀ n0 : Nat, ∃ P Q, whileN (fun _ S => .ok (.bl true) S) (exSs Φ Φf G fuel n0 lBetw) fuel [some (qD lp lq), some (qD hp hq), some (qD 0 1), some (qD 1 1), none] S = .ret (qD P Q) S false ∧ 1 ≤ Q ∧ Q ≤ 2000000 ∧ 0 ≤ P ∧ P ≤ Q ∧ lp * Q < P * lq ∧ P * hq < hp * Q := by
        intro n0
        refine while_ind (cond := fun _ S => .ok (.bl true) S) (body := exSs Φ Φf G fuel n0 lBetw) (post := fun r => ∃ P Q, r = .ret (qD P Q) S false ∧ 1 ≤ Q ∧ Q ≤ 2000000 ∧ 0 ≤ P ∧ P ≤ Q ∧ lp * Q < P * lq ∧ P * hq < hp * Q)
          (fun i Γ S' => S' = S ∧ ∃ a b c d : Int, (∃ x, Γ = [some (qD lp lq), some (qD hp hq), some (qD a b), some (qD c d), x]) ∧ 0 ≤ a ∧ a ≤ b ∧ 0 ≤ c ∧ c ≤ d ∧ 1 ≤ b ∧ 1 ≤ d ∧ c * b - a * d = 1 ∧ a * lq ≤ lp * b ∧ hp * d ≤ c * hq ∧ (i : Int) + 2 ≤ b + d) 900000 ?_ ?_ 900000 0 fuel _ S (by omega) hfu ⟨rfl, 0, 1, 1, 1, ⟨none, rfl⟩, by omega, by omega, by omega, by omega, by omega, by omega, by omega, by omega, by omega, by omega⟩
        · rintro i Γ S' hi ⟨rfl, a, b, c, d, ⟨x, rfl⟩, a0, ab, c0, cd, b1, d1, det, hlo, hhi, hm⟩
          have bd := sb_bound hlo hhi det (by omega) b1 d1 l1 h1
          have lh : lq * hq ≤ 900 * 900 := Int.mul_le_mul l2 h2 (by omega) (by omega)
          have bb : b ≤ b * d := by
            have := Int.mul_le_mul_of_nonneg_left d1 (show 0 ≤ b by omega)
            omega
          have dd : d ≤ b * d := by
            have := Int.mul_le_mul_of_nonneg_right b1 (show 0 ≤ d by omega)
            omega
          have ls1 := h lp lq (a + c) (b + d) S' (by omega) (by omega) (by omega) (by omega)
          have ls2 := h (a + c) (b + d) hp hq S' (by omega) (by omega) (by omega) (by omega)
          left
          refine ⟨S', rfl, ?_⟩
          by_cases t1 : lp * (b + d) < (a + c) * lq
          · by_cases t2 : (a + c) * hq < hp * (b + d)
            · right
              refine ⟨qD (a + c) (b + d), S', false, ?_, a + c, b + d, rfl, by omega, by omega, by omega, by omega, t1, t2⟩
              rw [decide_eq_true t1] at ls1
              rw [decide_eq_true t2] at ls2
              unfold qD at ls1 ls2 ⊢
              simp [lBetw, e, ls1, ls2, hz]
            · left
              refine ⟨[some (qD lp lq), some (qD hp hq), some (qD a b), some (qD (a + c) (b + d)), some (qD (a + c) (b + d))], S', ?_, rfl, a, b, a + c, b + d, ⟨_, rfl⟩, a0, ab, by omega, by omega, b1, by omega, ?_, hlo, by omega, by omega⟩
              · rw [decide_eq_true t1] at ls1
                rw [decide_eq_false t2] at ls2
                unfold qD at ls1 ls2 ⊢
                simp [lBetw, e, ls1, ls2, hz]
              · rw [Int.add_mul, Int.mul_add]; omega
          · left
            refine ⟨[some (qD lp lq), some (qD hp hq), some (qD (a + c) (b + d)), some (qD c d), some (qD (a + c) (b + d))], S', ?_, rfl, a + c, b + d, c, d, ⟨_, rfl⟩, by omega, by omega, c0, cd, by omega, d1, ?_, by omega, hhi, by omega⟩
            · rw [decide_eq_false t1] at ls1
              unfold qD at ls1 ⊢
              simp [lBetw, e, ls1, hz]
            · rw [Int.add_mul, Int.mul_add]; omega
        · rintro Γ S' ⟨rfl, a, b, c, d, ⟨x, rfl⟩, a0, ab, c0, cd, b1, d1, det, hlo, hhi, hm⟩
          have bd := sb_bound hlo hhi det (by omega) b1 d1 l1 h1
          have lh : lq * hq ≤ 900 * 900 := Int.mul_le_mul l2 h2 (by omega) (by omega)
          have s : b + d ≤ b * d + 1 := by
            have : 0 ≤ (b - 1) * (d - 1) := Int.mul_nonneg (by omega) (by omega)
            rw [Int.sub_mul, Int.mul_sub, Int.one_mul, Int.mul_one] at this
            omega
          omega
      obtain ⟨P, Q, k, r⟩ := key S.length
      refine ⟨P, Q, ?_, r⟩
      unfold qD at k ⊢
      simp [bBetw, c1, c2, hz, k]
end
end EK

set_option Elab.async false
set_option linter.all false
set_option maxRecDepth 100000
set_option maxHeartbeats 4000000
namespace EK
/-! ### rows of names: what they tell, turned about -/
abbrev pl (n : Nm) (w : List Nat) : List Nat := imgW n.a n.b w
theorem wd_cons {c : Nat} {w : List Nat} (h : Wd (c :: w)) : (c = 97 ∨ c = 98) ∧ Wd w :=
  ⟨h c (by simp), fun x hx => h x (by simp [hx])⟩
theorem wd_cons' {c : Nat} {w : List Nat} (h : c = 97 ∨ c = 98) (h' : Wd w) : Wd (c :: w) := fun x hx => by
  rcases List.mem_cons.mp hx with q | q
  · subst q; exact h
  · exact h' x q
theorem wdA {x y : List Nat} : Wd (x ++ y) ↔ Wd x ∧ Wd y :=
  ⟨fun h => ⟨fun c hc => h c (by simp [hc]), fun c hc => h c (by simp [hc])⟩, fun h c hc => (List.mem_append.mp hc).elim (h.1 c) (h.2 c)⟩
theorem pl_a {n : Nm} {w : List Nat} : pl n (97 :: w) = n.a ++ pl n w := by simp [pl, imgW_cons]
theorem pl_b {n : Nm} {w : List Nat} : pl n (98 :: w) = 97 :: pl n w := by simp [pl, imgW_cons, Nm.b]
theorem pl_app {n : Nm} {x y : List Nat} : pl n (x ++ y) = pl n x ++ pl n y := imgW_app
theorem pl_nil {n : Nm} : pl n [] = [] := rfl
theorem fr_head : ∀ {w : List Nat}, Wd w → ∀ s, pl .front w ≠ 98 :: s
  | [], _, s => by simp [pl, imgW_nil]
  | c :: w, h, s => by
    rcases (wd_cons h).1 with rfl | rfl
    · rw [pl_a]; simp [Nm.a]
    · rw [pl_b]; simp
theorem pl_inj {n : Nm} : ∀ {x y : List Nat}, Wd x → Wd y → pl n x = pl n y → x = y
  | [], [], _, _, _ => rfl
  | [], c :: y, _, h, e => by
    rcases (wd_cons h).1 with rfl | rfl
    · rw [pl_a] at e; cases n <;> simp [pl, imgW_nil, Nm.a] at e
    · rw [pl_b] at e; simp [pl, imgW_nil] at e
  | c :: x, [], h, _, e => by
    rcases (wd_cons h).1 with rfl | rfl
    · rw [pl_a] at e; cases n <;> simp [pl, imgW_nil, Nm.a] at e
    · rw [pl_b] at e; simp [pl, imgW_nil] at e
  | c :: x, d :: y, h, h', e => by
    obtain ⟨hc, hx⟩ := wd_cons h
    obtain ⟨hd, hy⟩ := wd_cons h'
    have ih := pl_inj (n := n) hx hy
    rcases hc with rfl | rfl <;> rcases hd with rfl | rfl
    · rw [pl_a, pl_a] at e; rw [ih (List.append_cancel_left e)]
    · rw [pl_a, pl_b] at e
      cases n
      · simp [Nm.a] at e
      · simp [Nm.a] at e
        exact absurd e.symm (fr_head hy _)
      · simp [Nm.a] at e
    · rw [pl_a, pl_b] at e
      cases n
      · simp [Nm.a] at e
      · simp [Nm.a] at e
        exact absurd e (fr_head hx _)
      · simp [Nm.a] at e
    · rw [pl_b, pl_b] at e; rw [ih (by simpa using e)]
theorem a_front : ∀ {w : List Nat}, Wd w → 97 :: pl .back w = pl .front w ++ [97]
  | [], _ => rfl
  | c :: w, h => by
    have ih := a_front (wd_cons h).2
    rcases (wd_cons h).1 with rfl | rfl
    · rw [pl_a, pl_a]; simp [Nm.a, ih]
    · rw [pl_b, pl_b]; simp [ih]
def mir : Nm → Nm
  | .back => .front
  | .front => .back
  | .swap => .swap
theorem mir_mir (n : Nm) : mir (mir n) = n := by cases n <;> rfl
theorem img_rev {u v : List Nat} : ∀ w : List Nat, imgW u.reverse v.reverse w.reverse = (imgW u v w).reverse
  | [] => rfl
  | c :: w => by
    rw [List.reverse_cons, imgW_app, img_rev w, imgW_cons, imgW_cons, imgW_nil, List.reverse_append, List.append_nil]
    split <;> rfl
theorem pl_mir {n : Nm} (w : List Nat) : pl (mir n) w.reverse = (pl n w).reverse := by
  rw [pl, pl, ← img_rev]; cases n <;> rfl
theorem told_mir : ∀ ns : List Nm, toldW (ns.map mir) = ((toldW ns).1.reverse, (toldW ns).2.reverse)
  | [] => rfl
  | n :: r => by
    rw [List.map_cons, toldW, told_mir r, toldW]
    simp only [← pl_mir]
theorem told_cons {n : Nm} {r : List Nm} {x y : List Nat} (h : toldW r = (x, y)) : toldW (n :: r) = (pl n x, pl n y) := by
  rw [toldW, h]
theorem turn : ∀ (ns : List Nm) {c : Nat} {s t : List Nat}, toldW ns = (c :: s, c :: t) → ∃ ns', ns'.length = ns.length ∧ toldW ns' = (s ++ [c], t ++ [c])
  | [], c, s, t, h => by simp [toldW] at h; omega
  | n :: r, c, s, t, h => by
    obtain ⟨wx, wy, lx, ly⟩ := told_wd r
    have ih := @turn r
    rcases e : toldW r with ⟨x, y⟩
    rw [told_cons e] at h
    rw [e] at wx wy lx ly ih
    obtain ⟨h1, h2⟩ := Prod.mk.inj h
    cases x with
    | nil => simp at lx
    | cons d x =>
    cases y with
    | nil => simp at ly
    | cons d' y =>
    obtain ⟨hd, wx'⟩ := wd_cons wx
    obtain ⟨hd', wy'⟩ := wd_cons wy
    cases n with
    | front =>
      refine ⟨.back :: r, rfl, ?_⟩
      rw [told_cons e]
      have a1 := a_front wx
      have a2 := a_front wy
      rw [h1] at a1
      rw [h2] at a2
      simp only [List.cons_append, List.cons.injEq] at a1 a2
      rw [a1.2, a2.2, ← a1.1]
    | swap =>
      have hdd : d' = d := by
        rcases hd with rfl | rfl <;> rcases hd' with rfl | rfl
        · rfl
        · rw [pl_a] at h1; rw [pl_b] at h2; simp [Nm.a] at h1 h2; omega
        · rw [pl_b] at h1; rw [pl_a] at h2; simp [Nm.a] at h1 h2; omega
        · rfl
      subst hdd
      obtain ⟨r', l, e'⟩ := ih rfl
      refine ⟨.swap :: r', by simp [l], ?_⟩
      rw [told_cons e', pl_app, pl_app]
      rcases hd with rfl | rfl
      · rw [pl_a] at h1 h2; simp [Nm.a] at h1 h2
        rw [h1.2, h2.2, ← h1.1]; rfl
      · rw [pl_b] at h1 h2; simp at h1 h2
        rw [h1.2, h2.2, ← h1.1]; rfl
    | back =>
      have hdd : d' = d := by
        rcases hd with rfl | rfl <;> rcases hd' with rfl | rfl
        · rfl
        · rw [pl_a] at h1; rw [pl_b] at h2; simp [Nm.a] at h1 h2; omega
        · rw [pl_b] at h1; rw [pl_a] at h2; simp [Nm.a] at h1 h2; omega
        · rfl
      subst hdd
      obtain ⟨r', l, e'⟩ := ih rfl
      rcases hd with rfl | rfl
      · refine ⟨.front :: r', by simp [l], ?_⟩
        rw [told_cons e', pl_app, pl_app]
        rw [pl_a] at h1 h2; simp [Nm.a] at h1 h2
        have a1 := a_front wx'
        have a2 := a_front wy'
        rw [← h1.2, ← h2.2, a1, a2, ← h1.1]
        simp [pl, imgW_cons, imgW_nil, Nm.a]
      · refine ⟨.back :: r', by simp [l], ?_⟩
        rw [told_cons e', pl_app, pl_app]
        rw [pl_b] at h1 h2; simp at h1 h2
        rw [h1.2, h2.2, ← h1.1]; rfl
theorem turnb (ns : List Nm) {c : Nat} {s t : List Nat} (h : toldW ns = (s ++ [c], t ++ [c])) : ∃ ns', ns'.length = ns.length ∧ toldW ns' = (c :: s, c :: t) := by
  have e := told_mir ns
  rw [h] at e
  simp only [List.reverse_append, List.reverse_cons, List.reverse_nil, List.nil_append, List.cons_append] at e
  obtain ⟨r, l, e'⟩ := turn _ e
  refine ⟨r.map mir, by simpa using l, ?_⟩
  rw [told_mir, e']
  simp
theorem told_na : ∀ ns : List Nm, (toldW ns).1 ++ (toldW ns).2 ≠ (toldW ns).2 ++ (toldW ns).1
  | [] => by simp [toldW]
  | n :: r => by
    intro h
    obtain ⟨wx, wy, _, _⟩ := told_wd r
    refine told_na r (pl_inj (n := n) (wdA.mpr ⟨wx, wy⟩) (wdA.mpr ⟨wy, wx⟩) ?_)
    rw [pl_app, pl_app]
    exact h
/-- how many a and b a word has -/
theorem ct_back : ∀ {w : List Nat}, Wd w → (pl .back w).count 97 = w.count 97 + w.count 98 ∧ (pl .back w).count 98 = w.count 97
  | [], _ => ⟨rfl, rfl⟩
  | c :: w, h => by
    obtain ⟨i1, i2⟩ := ct_back (wd_cons h).2
    rcases (wd_cons h).1 with rfl | rfl
    · rw [pl_a]; simp [Nm.a, List.count_cons, i1, i2]; omega
    · rw [pl_b]; simp [List.count_cons, i1, i2]; omega
theorem ct_front : ∀ {w : List Nat}, Wd w → (pl .front w).count 97 = w.count 97 + w.count 98 ∧ (pl .front w).count 98 = w.count 97
  | [], _ => ⟨rfl, rfl⟩
  | c :: w, h => by
    obtain ⟨i1, i2⟩ := ct_front (wd_cons h).2
    rcases (wd_cons h).1 with rfl | rfl
    · rw [pl_a]; simp [Nm.a, List.count_cons, i1, i2]; omega
    · rw [pl_b]; simp [List.count_cons, i1, i2]; omega
theorem ct_swap : ∀ {w : List Nat}, Wd w → (pl .swap w).count 97 = w.count 98 ∧ (pl .swap w).count 98 = w.count 97
  | [], _ => ⟨rfl, rfl⟩
  | c :: w, h => by
    obtain ⟨i1, i2⟩ := ct_swap (wd_cons h).2
    rcases (wd_cons h).1 with rfl | rfl
    · rw [pl_a]; simp [Nm.a, List.count_cons, i1, i2]
    · rw [pl_b]; simp [List.count_cons, i1, i2]
theorem noB_rep : ∀ {w : List Nat}, Wd w → w.count 98 = 0 → w = List.replicate w.length 97
  | [], _, _ => rfl
  | c :: w, h, e => by
    rcases (wd_cons h).1 with rfl | rfl
    · rw [List.count_cons] at e
      have := noB_rep (wd_cons h).2 (by simpa using e)
      rw [List.length_cons, List.replicate_succ, ← this]
    · simp at e
theorem n_wd (n : Nm) : Wd n.a ∧ Wd n.b := by
  cases n <;> exact ⟨fun c h => by simp [Nm.a] at h; omega, fun c h => by simp [Nm.b] at h; omega⟩
theorem pl_wd {n : Nm} (w : List Nat) : Wd (pl n w) := imgW_wd (n_wd n).1 (n_wd n).2 w
theorem sw_sw : ∀ {w : List Nat}, Wd w → pl .swap (pl .swap w) = w
  | [], _ => rfl
  | c :: w, h => by
    have ih := sw_sw (wd_cons h).2
    rcases (wd_cons h).1 with rfl | rfl
    · rw [pl_a]; show pl .swap (98 :: pl .swap w) = _; rw [pl_b, ih]
    · rw [pl_b, pl_a, ih]; rfl
/-- what is told behind a swap of back or front does not come by back -/
theorem no_sw {r : List Nm} {n : Nm} {u v : List Nat} (hn : n ≠ .swap) (wu : Wd u) (wv : Wd v) {m : Nm} (hm : m ≠ .swap) (h : toldW (.swap :: n :: r) = (pl m u, pl m v)) : False := by
  obtain ⟨wx, wy, _, _⟩ := told_wd r
  have na := told_na r
  rcases e : toldW r with ⟨x, y⟩
  rw [e] at wx wy na
  rw [told_cons (told_cons e)] at h
  obtain ⟨h1, h2⟩ := Prod.mk.inj h
  have key : ∀ {x u : List Nat}, Wd x → Wd u → pl .swap (pl n x) = pl m u → x.count 98 = 0 := by
    intro x u wx wu h
    have q1 : (pl n x).count 97 = x.count 97 + x.count 98 ∧ (pl n x).count 98 = x.count 97 := by
      cases n
      · exact ct_back wx
      · exact ct_front wx
      · exact absurd rfl hn
    have q2 : (pl m u).count 97 = u.count 97 + u.count 98 ∧ (pl m u).count 98 = u.count 97 := by
      cases m
      · exact ct_back wu
      · exact ct_front wu
      · exact absurd rfl hm
    have q3 := ct_swap (pl_wd (n := n) x)
    rw [h] at q3
    omega
  obtain ⟨i, k1⟩ : ∃ i, x = List.replicate i 97 := ⟨_, noB_rep wx (key wx wu h1)⟩
  obtain ⟨j, k2⟩ : ∃ j, y = List.replicate j 97 := ⟨_, noB_rep wy (key wy wv h2)⟩
  apply na
  show x ++ y = y ++ x
  rw [k1, k2, List.replicate_append_replicate, List.replicate_append_replicate, Nat.add_comm]
theorem cancel_back : ∀ (k : Nat) (ns : List Nm), ns.length ≤ k → ∀ {u v : List Nat}, Wd u → Wd v → toldW ns = (pl .back u, pl .back v) → ∃ ns', ns'.length + 1 ≤ ns.length ∧ toldW ns' = (u, v)
  | k, [], _, u, v, wu, wv, h => by
    exfalso
    obtain ⟨h1, h2⟩ := Prod.mk.inj h
    have := ct_back wv
    rw [← h2] at this
    simp at this
    omega
  | k, .back :: r, _, u, v, wu, wv, h => by
    obtain ⟨wx, wy, _, _⟩ := told_wd r
    obtain ⟨h1, h2⟩ := Prod.mk.inj h
    refine ⟨r, by simp, ?_⟩
    rw [← pl_inj wx wu h1, ← pl_inj wy wv h2]
  | k, .front :: r, _, u, v, wu, wv, h => by
    obtain ⟨wx, wy, lx, ly⟩ := told_wd r
    rcases e : toldW r with ⟨x, y⟩
    rw [told_cons e] at h
    rw [e] at wx wy lx ly
    obtain ⟨h1, h2⟩ := Prod.mk.inj h
    have key : ∀ {x u : List Nat}, Wd x → Wd u → 1 ≤ x.length → pl .front x = pl .back u → ∃ s, u = 98 :: s ∧ x = s ++ [98] := by
      intro x u wx wu lx h
      cases u with
      | nil =>
        exfalso
        cases x with
        | nil => simp at lx
        | cons d x =>
          rcases (wd_cons wx).1 with rfl | rfl
          · rw [pl_a] at h; simp [Nm.a, pl, imgW_nil] at h
          · rw [pl_b] at h; simp [pl, imgW_nil] at h
      | cons c s =>
        rcases (wd_cons wu).1 with rfl | rfl
        · exact absurd (by rw [h, pl_a]; rfl) (fr_head wx (97 :: pl .back s))
        · refine ⟨s, rfl, pl_inj (n := .back) wx (wdA.mpr ⟨(wd_cons wu).2, fun c hc => by simp at hc; exact .inr hc⟩) ?_⟩
          have a := a_front wx
          rw [h, pl_b] at a
          simp only [List.cons_append, List.cons.injEq, true_and] at a
          rw [pl_app, a]; rfl
    obtain ⟨s, rfl, rfl⟩ := key wx wu lx h1
    obtain ⟨t, rfl, rfl⟩ := key wy wv ly h2
    obtain ⟨r', l, e'⟩ := turnb r e
    exact ⟨r', by simp [l], e'⟩
  | k, [.swap], _, u, v, wu, wv, h => by
    exfalso
    obtain ⟨h1, h2⟩ := Prod.mk.inj h
    have := ct_back wu
    have h1 : pl .back u = [98] := h1.symm
    rw [h1] at this
    simp at this
    omega
  | k, .swap :: .back :: r, _, u, v, wu, wv, h => (no_sw (by simp) wu wv (by simp) h).elim
  | k, .swap :: .front :: r, _, u, v, wu, wv, h => (no_sw (by simp) wu wv (by simp) h).elim
  | 0, .swap :: .swap :: r, hk, u, v, wu, wv, h => by simp at hk
  | k + 1, .swap :: .swap :: r, hk, u, v, wu, wv, h => by
    obtain ⟨wx, wy, _, _⟩ := told_wd r
    rcases e : toldW r with ⟨x, y⟩
    rw [e] at wx wy
    rw [told_cons (told_cons e), sw_sw wx, sw_sw wy] at h
    obtain ⟨ns, l, e'⟩ := cancel_back k r (by simp at hk; omega) wu wv (e.trans h)
    exact ⟨ns, by simp; omega, e'⟩
theorem cancel {n : Nm} (hn : n ≠ .swap) {ns : List Nm} {u v : List Nat} (wu : Wd u) (wv : Wd v) (h : toldW ns = (pl n u, pl n v)) : ∃ ns', ns'.length + 1 ≤ ns.length ∧ toldW ns' = (u, v) := by
  cases n with
  | back => exact cancel_back _ ns (Nat.le_refl _) wu wv h
  | swap => exact absurd rfl hn
  | front =>
    have e := told_mir ns
    rw [h] at e
    simp only [← pl_mir] at e
    obtain ⟨r, l, e'⟩ := cancel_back _ (ns.map mir) (Nat.le_refl _) (wd_rev wu) (wd_rev wv) e
    refine ⟨r.map mir, by simpa using l, ?_⟩
    rw [told_mir, e']
    simp
theorem cancel_any {n : Nm} {ns : List Nm} {u v : List Nat} (wu : Wd u) (wv : Wd v) (h : toldW ns = (pl n u, pl n v)) : ∃ ns', toldW ns' = (u, v) := by
  by_cases hn : n = .swap
  · subst hn
    refine ⟨.swap :: ns, ?_⟩
    rw [told_cons h, sw_sw wu, sw_sw wv]
  · obtain ⟨r, _, e⟩ := cancel hn wu wv h
    exact ⟨r, e⟩
theorem told_img {n : Nm} {r : List Nm} : ∀ w : List Nat, imgW (toldW (n :: r)).1 (toldW (n :: r)).2 w = pl n (imgW (toldW r).1 (toldW r).2 w)
  | [] => rfl
  | c :: w => by
    rw [imgW_cons, imgW_cons, told_img w, pl_app]
    split <;> rfl
theorem img_same : ∀ {w : List Nat}, Wd w → imgW [97] [98] w = w
  | [], _ => rfl
  | c :: w, h => by
    rw [imgW_cons, img_same (wd_cons h).2]
    rcases (wd_cons h).1 with rfl | rfl <;> rfl
/-- what leads from one told pair to another one is told -/
theorem rest_told : ∀ (g : List Nm) {ns : List Nm} {u v : List Nat}, Wd u → Wd v → toldW ns = (imgW (toldW g).1 (toldW g).2 u, imgW (toldW g).1 (toldW g).2 v) → ∃ ns', toldW ns' = (u, v)
  | [], ns, u, v, wu, wv, h => ⟨ns, by rw [h]; simp only [toldW]; rw [img_same wu, img_same wv]⟩
  | n :: g, ns, u, v, wu, wv, h => by
    rw [told_img, told_img] at h
    obtain ⟨wx, wy, _, _⟩ := told_wd g
    obtain ⟨r, e⟩ := cancel_any (imgW_wd wx wy u) (imgW_wd wx wy v) h
    exact rest_told g wu wv e
theorem told_inj : ∀ (g : List Nm) {x y : List Nat}, Wd x → Wd y → imgW (toldW g).1 (toldW g).2 x = imgW (toldW g).1 (toldW g).2 y → x = y
  | [], x, y, wx, wy, h => by
    simp only [toldW] at h
    rwa [img_same wx, img_same wy] at h
  | n :: g, x, y, wx, wy, h => by
    rw [told_img, told_img] at h
    obtain ⟨w1, w2, _, _⟩ := told_wd g
    exact told_inj g wx wy (pl_inj (imgW_wd w1 w2 x) (imgW_wd w1 w2 y) h)
end EK

set_option Elab.async false
set_option linter.all false
set_option maxRecDepth 100000
set_option maxHeartbeats 4000000
namespace EK
/-! ### evenness by parts; powers of a word -/
def UnF (w : List Nat) : Prop := ∃ p x s q y t : List Nat, w = p ++ x ++ s ∧ w = q ++ y ++ t ∧ x.length = y.length ∧ y.count 98 + 2 ≤ x.count 98
theorem winP {p x s : List Nat} : win (p ++ x ++ s) x.length p.length = (x.count 98 : Nat) := by
  unfold win cnt
  have e1 : (p ++ x ++ s).take (p.length + x.length) = p ++ x := by
    rw [show p.length + x.length = (p ++ x).length by simp, List.take_left']
    rfl
  have e2 : (p ++ x ++ s).take p.length = p := by rw [List.append_assoc, List.take_left']; rfl
  rw [e1, e2, List.count_append]
  omega
theorem pWin {w : List Nat} {s p : Nat} (h : p + s ≤ w.length) : w = w.take p ++ (w.drop p).take s ++ w.drop (p + s) ∧ ((w.drop p).take s).length = s ∧ (w.take p).length = p := by
  refine ⟨?_, by simp; omega, by simp; omega⟩
  rw [List.append_assoc, ← List.drop_drop, List.take_append_drop, List.take_append_drop]
theorem noU_unF {w : List Nat} : NoU w ↔ ¬ UnF w := by
  constructor
  · rintro h ⟨p, x, s, q, y, t, e1, e2, hl, hc⟩
    have l1 := congrArg List.length e1
    have l2 := congrArg List.length e2
    simp only [List.length_append] at l1 l2
    have w1 := winP (p := p) (x := x) (s := s)
    have w2 := winP (p := q) (x := y) (s := t)
    rw [← e1] at w1
    rw [← e2, ← hl] at w2
    have hx := List.count_le_length (a := 98) (l := x)
    have hlt : x.length < w.length := by
      rcases Nat.lt_or_ge x.length w.length with z | z
      · exact z
      · exfalso
        have p0 : p = [] := List.eq_nil_of_length_eq_zero (by omega)
        have s0 : s = [] := List.eq_nil_of_length_eq_zero (by omega)
        have q0 : q = [] := List.eq_nil_of_length_eq_zero (by omega)
        have t0 : t = [] := List.eq_nil_of_length_eq_zero (by omega)
        subst p0 s0 q0 t0
        simp at e1 e2
        rw [← e1, ← e2] at hc
        omega
    exact h x.length (by omega) hlt ⟨p.length, q.length, by omega, by omega, by omega⟩
  · rintro h s h1 h2 ⟨p, q, hp, hq, hw⟩
    obtain ⟨e1, l1, k1⟩ := pWin hp
    obtain ⟨e2, l2, k2⟩ := pWin hq
    refine h ⟨_, _, _, _, _, _, e1, e2, by rw [l1, l2], ?_⟩
    have w1 := winP (p := w.take p) (x := (w.drop p).take s) (s := w.drop (p + s))
    have w2 := winP (p := w.take q) (x := (w.drop q).take s) (s := w.drop (q + s))
    rw [← e1, l1, k1] at w1
    rw [← e2, l2, k2] at w2
    omega
theorem noU_left {x y : List Nat} (h : NoU (x ++ y)) : NoU x := by
  rw [noU_unF] at h ⊢
  rintro ⟨p, a, s, q, b, t, e1, e2, hl, hc⟩
  exact h ⟨p, a, s ++ y, q, b, t ++ y, by rw [e1]; simp, by rw [e2]; simp, hl, hc⟩
/-- a word written n times -/
def pw (r : List Nat) : Nat → List Nat
  | 0 => []
  | n + 1 => r ++ pw r n
theorem pw_len {r : List Nat} : ∀ n, (pw r n).length = n * r.length
  | 0 => by simp [pw]
  | n + 1 => by rw [pw, List.length_append, pw_len n, Nat.succ_mul]; omega
theorem pw_add {r : List Nat} : ∀ m n, pw r (m + n) = pw r m ++ pw r n
  | 0, n => by simp [pw]
  | m + 1, n => by rw [show m + 1 + n = (m + n) + 1 by omega, pw, pw, pw_add m n, List.append_assoc]
theorem pw_one {r : List Nat} : pw r 1 = r := by simp [pw]
theorem pw_mul {r : List Nat} (k : Nat) : ∀ n, pw (pw r k) n = pw r (n * k)
  | 0 => by simp [pw]
  | n + 1 => by rw [pw, pw_mul k n, ← pw_add]; congr 1; rw [Nat.succ_mul]; omega
theorem pw_wd {r : List Nat} (h : Wd r) : ∀ n, Wd (pw r n)
  | 0 => fun c hc => by cases hc
  | n + 1 => fun c hc => (List.mem_append.mp hc).elim (h c) (pw_wd h n c)
/-- the heights of what goes on for ever -/
def ci (r : List Nat) (j : Nat) : Int := ((j / r.length : Nat) : Int) * cnt r r.length + cnt r (j % r.length)
theorem ci_add {r : List Nat} (hr : 0 < r.length) (a j : Nat) : ci r (a * r.length + j) = (a : Int) * cnt r r.length + ci r j := by
  unfold ci
  rw [show a * r.length + j = j + a * r.length by omega, Nat.add_mul_div_right _ _ hr, Nat.add_mul_mod_self_right, Int.natCast_add, Int.add_mul]
  omega
theorem cnt_app {x y : List Nat} {i : Nat} : cnt (x ++ y) (x.length + i) = cnt x x.length + cnt y i := by
  unfold cnt
  rw [List.take_append, List.take_of_length_le (by omega), List.count_append, List.take_length]
  rw [show x.length + i - x.length = i by omega]
  omega
theorem cnt_pre {x y : List Nat} {i : Nat} (h : i ≤ x.length) : cnt (x ++ y) i = cnt x i := by
  unfold cnt
  rw [List.take_append_of_le_length h]
theorem cnt_full {x : List Nat} {i : Nat} (h : x.length ≤ i) : cnt x i = cnt x x.length := by
  unfold cnt
  rw [List.take_of_length_le h, List.take_length]
theorem ci_small {r : List Nat} {i : Nat} (hr : 0 < r.length) (h : i < r.length) : ci r i = cnt r i := by
  unfold ci
  rw [Nat.div_eq_of_lt h, Nat.mod_eq_of_lt h]
  simp
theorem cnt_pw {r : List Nat} (hr : 0 < r.length) : ∀ (n i : Nat), i ≤ n * r.length → cnt (pw r n) i = ci r i
  | 0, i, h => by
    have : i = 0 := by omega
    subst this
    simp [ci, cnt, pw]
  | n + 1, i, h => by
    rw [Nat.succ_mul] at h
    rcases Nat.lt_or_ge i r.length with z | z
    · rw [pw, cnt_pre (by omega), ci_small hr z]
    · obtain ⟨j, rfl⟩ : ∃ j, i = r.length + j := ⟨i - r.length, by omega⟩
      rw [pw, cnt_app, cnt_pw hr n j (by omega)]
      have := ci_add hr 1 j
      rw [Nat.one_mul] at this
      rw [this]
      simp
theorem pw_even {r : List Nat} (hr : 0 < r.length) (h : NoU (r ++ r)) (n : Nat) : NoU (pw r n) := by
  rintro s h1 h2 ⟨p, q, hp, hq, hw⟩
  rw [pw_len] at hp hq
  have e2 : r ++ r = pw r 2 := by simp [pw]
  rw [e2] at h
  have key : ∀ p, p + s ≤ n * r.length → win (pw r n) s p = ((s / r.length : Nat) : Int) * cnt r r.length + win (pw r 2) (s % r.length) (p % r.length) := by
    intro p hp
    have m1 := Nat.mod_lt p hr
    have m2 := Nat.mod_lt s hr
    unfold win
    rw [cnt_pw hr _ _ hp, cnt_pw hr _ _ (by omega), cnt_pw hr _ _ (by omega), cnt_pw hr _ _ (by omega)]
    have d1 := Nat.div_add_mod p r.length
    have d2 := Nat.div_add_mod s r.length
    rw [Nat.mul_comm] at d1 d2
    have a1 := ci_add hr (p / r.length) (p % r.length)
    have a2 := ci_add hr (p / r.length + s / r.length) (p % r.length + s % r.length)
    rw [d1] at a1
    rw [show (p / r.length + s / r.length) * r.length + (p % r.length + s % r.length) = p + s by rw [Nat.add_mul]; omega] at a2
    rw [a1, a2, Int.natCast_add, Int.add_mul]
    omega
  rw [key p hp, key q hq] at hw
  have m1 := Nat.mod_lt p hr
  have m2 := Nat.mod_lt q hr
  have m3 := Nat.mod_lt s hr
  rcases Nat.eq_zero_or_pos (s % r.length) with z | z
  · rw [z] at hw
    unfold win at hw
    simp at hw
  · refine h (s % r.length) z ?_ ⟨p % r.length, q % r.length, ?_, ?_, by omega⟩ <;> rw [pw_len] <;> omega
theorem pw_even' {r : List Nat} (hr : 0 < r.length) {k : Nat} (hk : 1 ≤ k) : NoU (r ++ r) ↔ NoU (pw r k ++ pw r k) := by
  rw [← pw_add]
  refine ⟨fun h => pw_even hr h _, fun h => ?_⟩
  rw [show k + k = 2 + (k + k - 2) by omega, pw_add] at h
  have := noU_left h
  simpa [pw] using this
theorem pl_pw {n : Nm} {w : List Nat} : ∀ k, pl n (pw w k) = pw (pl n w) k
  | 0 => rfl
  | k + 1 => by rw [pw, pl_app, pl_pw k, pw]
theorem len_ct : ∀ {w : List Nat}, Wd w → w.length = w.count 97 + w.count 98
  | [], _ => rfl
  | c :: w, h => by
    have := len_ct (wd_cons h).2
    rcases (wd_cons h).1 with rfl | rfl
    · simp [List.count_cons]; omega
    · simp [List.count_cons]; omega
theorem fr_cons {w : List Nat} (h : Wd w) (hl : 0 < w.length) : ∃ s, pl .front w = 97 :: s := by
  cases w with
  | nil => simp at hl
  | cons c w =>
    rcases (wd_cons h).1 with rfl | rfl
    · exact ⟨_, by rw [pl_a]; rfl⟩
    · exact ⟨_, pl_b⟩
theorem un_front {w z : List Nat} (hw : Wd w) (hz : Wd z) (lz : 0 < z.length) (h : UnF w) : UnF (pl .front (w ++ z)) := by
  obtain ⟨p, x, s, q, y, t, e1, e2, hl, hc⟩ := h
  have w1 := hw
  have w2 := hw
  rw [e1] at w1
  rw [e2] at w2
  have wx : Wd x := (wdA.mp (wdA.mp w1).1).2
  have ws : Wd s := (wdA.mp w1).2
  have wy : Wd y := (wdA.mp (wdA.mp w2).1).2
  have c1 := ct_front wx
  have c2 := ct_front wy
  have l1 := len_ct wx
  have l2 := len_ct wy
  have l3 := len_ct (pl_wd (n := .front) x)
  have l4 := len_ct (pl_wd (n := .front) y)
  obtain ⟨S', eS⟩ := fr_cons (w := s ++ z) (wdA.mpr ⟨ws, hz⟩) (by simp; omega)
  obtain ⟨Y, eY⟩ := fr_cons wy (by omega)
  have cY : Y.count 98 = (pl .front y).count 98 := by rw [eY]; simp
  have lY : Y.length + 1 = (pl .front y).length := by rw [eY]; simp
  have cT : Y.count 98 ≤ (Y.take ((pl .front x).length + 1)).count 98 + (Y.length - ((pl .front x).length + 1)) := by
    have : Y.count 98 = (Y.take ((pl .front x).length + 1)).count 98 + (Y.drop ((pl .front x).length + 1)).count 98 := by
      rw [← List.count_append, List.take_append_drop]
    have q := List.count_le_length (a := 98) (l := Y.drop ((pl .front x).length + 1))
    rw [List.length_drop] at q
    omega
  refine ⟨pl .front q ++ [97], Y.take ((pl .front x).length + 1), Y.drop ((pl .front x).length + 1) ++ pl .front (t ++ z), pl .front p, pl .front x ++ [97], S', ?_, ?_, ?_, ?_⟩
  · rw [e2]
    simp only [List.append_assoc]
    rw [pl_app, pl_app, eY]
    simp only [List.append_assoc, List.cons_append, List.nil_append]
    rw [← List.append_assoc (List.take _ Y), List.take_append_drop]
  · rw [e1]
    simp only [List.append_assoc]
    rw [pl_app, pl_app, eS]
    simp
  · rw [List.length_take, List.length_append, List.length_singleton]
    omega
  · rw [List.count_append]
    simp
    omega
theorem pl_swap_flip : ∀ {w : List Nat}, Wd w → pl .swap w = w.map flip
  | [], _ => rfl
  | c :: w, h => by
    have ih := pl_swap_flip (wd_cons h).2
    rcases (wd_cons h).1 with rfl | rfl
    · rw [pl_a, ih]; rfl
    · rw [pl_b, ih]; rfl
theorem pw_snoc {r : List Nat} (n : Nat) : pw r (n + 1) = pw r n ++ r := by rw [pw_add, pw_one]
theorem pw_rev {r : List Nat} : ∀ n, (pw r n).reverse = pw r.reverse n
  | 0 => rfl
  | n + 1 => by rw [pw, List.reverse_append, pw_rev n, ← pw_snoc]
theorem noU_rev {w : List Nat} : NoU w.reverse ↔ NoU w := noU_iff (unev_rev w) (by simp)
theorem un_pl {n : Nm} {w : List Nat} (hw : Wd w) (lw : 0 < w.length) (h : ∀ k, NoU (pw (pl n w) k)) (k : Nat) : NoU (pw w k) := by
  have front : ∀ {w : List Nat}, Wd w → 0 < w.length → (∀ k, NoU (pw (pl .front w) k)) → NoU (pw w k) := by
    intro w hw lw h
    rw [noU_unF]
    intro z
    have := un_front (pw_wd hw k) hw lw z
    rw [← pw_snoc, pl_pw] at this
    exact noU_unF.mp (h _) this
  cases n with
  | front => exact front hw lw h
  | back =>
    rw [← noU_rev, pw_rev]
    refine front (wd_rev hw) (by simpa using lw) fun k => ?_
    have := pl_mir (n := .back) w
    rw [show mir .back = .front from rfl] at this
    rw [this, ← pw_rev, noU_rev]
    exact h k
  | swap =>
    have := h k
    rw [← pl_pw, pl_swap_flip (pw_wd hw k)] at this
    exact (noU_iff (unev_flip (pw_wd hw k)) (by simp)).mp this
theorem img_len_pos {u v : List Nat} (hu : 1 ≤ u.length) (hv : 1 ≤ v.length) {w : List Nat} (h : 0 < w.length) : 0 < (imgW u v w).length := by
  cases w with
  | nil => simp at h
  | cons c w =>
    rw [imgW_cons, List.length_append]
    split <;> omega
/-- what a told pair leads to even words, written over and over, is even -/
theorem un_told : ∀ (g : List Nm) {w : List Nat}, Wd w → 0 < w.length → (∀ k, NoU (pw (imgW (toldW g).1 (toldW g).2 w) k)) → ∀ k, NoU (pw w k)
  | [], w, hw, lw, h, k => by
    have := h k
    simp only [toldW] at this
    rwa [img_same hw] at this
  | n :: g, w, hw, lw, h, k => by
    obtain ⟨w1, w2, l1, l2⟩ := told_wd g
    refine un_told g hw lw (fun k => ?_) k
    refine un_pl (n := n) (imgW_wd w1 w2 w) (img_len_pos l1 l2 lw) (fun k => ?_) k
    rw [← told_img]
    exact h k
end EK

set_option Elab.async false
set_option linter.all false
set_option maxRecDepth 100000
set_option maxHeartbeats 4000000
namespace EK
/-! ### what leads to a word by front, by back; the row that is found -/
def frP : List Nat → List Nat
  | [] => []
  | c :: r => (if c = 97 then [if r.take 1 = [98] then 97 else 98] else []) ++ frP r
theorem frP_wd : ∀ w, Wd (frP w)
  | [] => fun c h => by cases h
  | c :: r => by
    intro x hx
    rw [frP] at hx
    rcases List.mem_append.mp hx with h | h
    · split at h
      · simp at h; subst h; split
        · exact .inl rfl
        · exact .inr rfl
      · cases h
    · exact frP_wd r x h
abbrev NB (w : List Nat) : Prop := infB [98, 98] w = false
theorem nb_iff {w : List Nat} : NB w ↔ ∀ i, i ≤ w.length → (w.drop i).take 2 ≠ [98, 98] := by
  unfold NB infB
  rw [List.any_eq_false]
  constructor
  · intro h i hi
    have := h i (List.mem_range.mpr (by omega))
    simpa using this
  · intro h i hi
    have := h i (by have := List.mem_range.mp hi; omega)
    simpa using this
theorem nb_cons {c : Nat} {r : List Nat} : NB (c :: r) ↔ (c :: r).take 2 ≠ [98, 98] ∧ NB r := by
  rw [nb_iff, nb_iff]
  constructor
  · intro h
    exact ⟨h 0 (by omega), fun i hi => h (i + 1) (by simpa using hi)⟩
  · rintro ⟨h1, h2⟩ i hi
    cases i with
    | zero => exact h1
    | succ i => exact h2 i (by simpa using hi)
theorem nb_nil : NB [] := rfl
theorem fr_peel : ∀ (n : Nat) {w : List Nat}, w.length ≤ n → Wd w → w.take 1 ≠ [98] → NB w → pl .front (frP w) = w
  | n, [], _, _, _, _ => rfl
  | 0, c :: r, hl, _, _, _ => by simp at hl
  | n + 1, c :: r, hl, hw, h1, h2 => by
    obtain ⟨hc, hr⟩ := wd_cons hw
    have h3 := (nb_cons.mp h2).2
    rcases hc with rfl | rfl
    · rw [frP, if_pos rfl]
      by_cases hb : r.take 1 = [98]
      · rw [if_pos hb]
        cases r with
        | nil => simp at hb
        | cons d r' =>
          have hd : d = 98 := by simpa using hb
          subst hd
          have h4 := nb_cons.mp h3
          have e : frP (98 :: r') = frP r' := by simp [frP]
          rw [e]
          show pl .front (97 :: frP r') = _
          rw [pl_a, fr_peel n (by simp at hl; omega) (wd_cons hr).2 ?_ h4.2]
          · rfl
          · intro z
            cases r' with
            | nil => simp at z
            | cons d r'' =>
              have : d = 98 := by simpa using z
              subst this
              exact h4.1 (by simp)
      · rw [if_neg hb]
        show pl .front (98 :: frP r) = _
        rw [pl_b, fr_peel n (by simp at hl; omega) hr hb h3]
    · exact absurd (by simp) h1
theorem peel_fr : ∀ {x : List Nat}, Wd x → frP (pl .front x) = x ∧ NB (pl .front x)
  | [], _ => ⟨rfl, rfl⟩
  | c :: x, h => by
    obtain ⟨hc, hx⟩ := wd_cons h
    obtain ⟨i1, i2⟩ := peel_fr hx
    have hd : (pl .front x).take 1 ≠ [98] := by
      intro z
      cases e : pl .front x with
      | nil => rw [e] at z; simp at z
      | cons d r =>
        rw [e] at z
        have : d = 98 := by simpa using z
        subst this
        exact fr_head hx r e
    rcases hc with rfl | rfl
    · rw [pl_a]
      show frP (97 :: 98 :: pl .front x) = _ ∧ NB (97 :: 98 :: pl .front x)
      refine ⟨by simp [frP, i1], ?_⟩
      rw [nb_cons, nb_cons]
      refine ⟨by simp, ?_, i2⟩
      intro z
      apply hd
      cases e : pl .front x with
      | nil => rw [e] at z; simp at z
      | cons d r => rw [e] at z; simpa using z
    · rw [pl_b]
      refine ⟨by rw [frP, if_pos rfl, if_neg hd, i1]; rfl, ?_⟩
      rw [nb_cons]
      exact ⟨by simp, i2⟩
/-- the word that front leads to a word -/
def fo (w : List Nat) : Option (List Nat) := if w.take 1 = [98] ∨ infB [98, 98] w = true then none else some (frP w)
def bo (w : List Nat) : Option (List Nat) := (fo w.reverse).map List.reverse
theorem fo_some {w x : List Nat} (hw : Wd w) (h : fo w = some x) : pl .front x = w ∧ Wd x := by
  unfold fo at h
  split at h
  · cases h
  · rename_i hn
    cases h
    exact ⟨fr_peel _ (Nat.le_refl _) hw (fun z => hn (.inl z)) (by rw [NB]; exact Bool.eq_false_iff.mpr fun z => hn (.inr z)), frP_wd w⟩
theorem fo_front {x : List Nat} (h : Wd x) : fo (pl .front x) = some x := by
  obtain ⟨i1, i2⟩ := peel_fr h
  unfold fo
  rw [if_neg, i1]
  rintro (z | z)
  · cases e : pl .front x with
    | nil => rw [e] at z; simp at z
    | cons d r =>
      rw [e] at z
      have : d = 98 := by simpa using z
      subst this
      exact fr_head h r e
  · rw [i2] at z; cases z
theorem bo_some {w x : List Nat} (hw : Wd w) (h : bo w = some x) : pl .back x = w ∧ Wd x := by
  unfold bo at h
  cases e : fo w.reverse with
  | none => rw [e] at h; cases h
  | some y =>
    rw [e] at h
    cases h
    obtain ⟨k1, k2⟩ := fo_some (wd_rev hw) e
    refine ⟨?_, wd_rev k2⟩
    have := pl_mir (n := .front) y
    rw [show mir .front = .back from rfl, k1, List.reverse_reverse] at this
    exact this
theorem bo_back {x : List Nat} (h : Wd x) : bo (pl .back x) = some x := by
  unfold bo
  have := pl_mir (n := .back) x
  rw [show mir .back = .front from rfl] at this
  rw [← this, fo_front (wd_rev h)]
  simp
def ways : Nm → List Nat → Option (List Nat)
  | .back => bo
  | .front => fo
  | .swap => fun _ => none
def ledW (n : Nm) (u v : List Nat) : Option (List Nat × List Nat) := match ways n u, ways n v with
  | some x, some y => some (x, y)
  | _, _ => none
theorem led_some {n : Nm} {u v x y : List Nat} (hu : Wd u) (hv : Wd v) (h : ledW n u v = some (x, y)) : n ≠ .swap ∧ pl n x = u ∧ pl n y = v ∧ Wd x ∧ Wd y := by
  unfold ledW at h
  split at h
  · rename_i x' y' e1 e2
    cases h
    cases n with
    | back =>
      obtain ⟨a1, a2⟩ := bo_some hu e1
      obtain ⟨b1, b2⟩ := bo_some hv e2
      exact ⟨by simp, a1, b1, a2, b2⟩
    | front =>
      obtain ⟨a1, a2⟩ := fo_some hu e1
      obtain ⟨b1, b2⟩ := fo_some hv e2
      exact ⟨by simp, a1, b1, a2, b2⟩
    | swap => cases e1
  · cases h
theorem led_pl {n : Nm} (hn : n ≠ .swap) {x y : List Nat} (hx : Wd x) (hy : Wd y) : ledW n (pl n x) (pl n y) = some (x, y) := by
  unfold ledW
  cases n with
  | back => simp only [ways, bo_back hx, bo_back hy]
  | front => simp only [ways, fo_front hx, fo_front hy]
  | swap => exact absurd rfl hn
/-- the row that is found first -/
def Gre : List Nm → List Nat → List Nat → Prop
  | [], u, v => u = [97] ∧ v = [98]
  | .back :: r, u, v => ∃ x y, ledW .back u v = some (x, y) ∧ Gre r x y
  | .front :: r, u, v => ledW .back u v = none ∧ ∃ x y, ledW .front u v = some (x, y) ∧ Gre r x y
  | .swap :: r, u, v => ledW .back u v = none ∧ ledW .front u v = none ∧ r.head? ≠ some .swap ∧ Gre r (pl .swap u) (pl .swap v)
theorem gre_told : ∀ {r : List Nm} {u v : List Nat}, Wd u → Wd v → Gre r u v → toldW r = (u, v)
  | [], u, v, _, _, h => by rw [h.1, h.2]; rfl
  | .back :: r, u, v, hu, hv, h => by
    obtain ⟨x, y, e, g⟩ := h
    obtain ⟨_, e1, e2, wx, wy⟩ := led_some hu hv e
    rw [told_cons (gre_told wx wy g), e1, e2]
  | .front :: r, u, v, hu, hv, h => by
    obtain ⟨_, x, y, e, g⟩ := h
    obtain ⟨_, e1, e2, wx, wy⟩ := led_some hu hv e
    rw [told_cons (gre_told wx wy g), e1, e2]
  | .swap :: r, u, v, hu, hv, h => by
    obtain ⟨_, _, _, g⟩ := h
    rw [told_cons (gre_told (pl_wd u) (pl_wd v) g), sw_sw hu, sw_sw hv]
/-- no row tells a pair that leads nowhere, nor behind a swap -/
theorem stuck {x y : List Nat} (wx : Wd x) (wy : Wd y) (hs : ¬ (x = [97] ∧ y = [98])) (h1 : ledW .back x y = none) (h2 : ledW .front x y = none)
    (hs' : ¬ (pl .swap x = [97] ∧ pl .swap y = [98])) (h3 : ledW .back (pl .swap x) (pl .swap y) = none) (h4 : ledW .front (pl .swap x) (pl .swap y) = none) : ∀ (n : Nat) (r : List Nm), r.length ≤ n → toldW r ≠ (x, y)
  | n, [], _, h => hs ⟨(Prod.mk.inj h).1.symm, (Prod.mk.inj h).2.symm⟩
  | n, .back :: r, _, h => by
    obtain ⟨w1, w2, _, _⟩ := told_wd r
    have := led_pl (n := .back) (by simp) w1 w2
    obtain ⟨e1, e2⟩ := Prod.mk.inj h
    rw [show pl .back (toldW r).1 = x from e1, show pl .back (toldW r).2 = y from e2, h1] at this
    cases this
  | n, .front :: r, _, h => by
    obtain ⟨w1, w2, _, _⟩ := told_wd r
    have := led_pl (n := .front) (by simp) w1 w2
    obtain ⟨e1, e2⟩ := Prod.mk.inj h
    rw [show pl .front (toldW r).1 = x from e1, show pl .front (toldW r).2 = y from e2, h2] at this
    cases this
  | n, [.swap], _, h => by
    obtain ⟨e1, e2⟩ := Prod.mk.inj h
    have e1 : [98] = x := e1
    have e2 : [97] = y := e2
    subst e1 e2
    exact hs' ⟨rfl, rfl⟩
  | n, .swap :: .back :: r, _, h => by
    obtain ⟨w1, w2, _, _⟩ := told_wd r
    have := led_pl (n := .back) (by simp) w1 w2
    obtain ⟨e1, e2⟩ := Prod.mk.inj h
    have e1 : pl .swap (pl .back (toldW r).1) = x := e1
    have e2 : pl .swap (pl .back (toldW r).2) = y := e2
    rw [← e1, ← e2, sw_sw (pl_wd _), sw_sw (pl_wd _), this] at h3
    cases h3
  | n, .swap :: .front :: r, _, h => by
    obtain ⟨w1, w2, _, _⟩ := told_wd r
    have := led_pl (n := .front) (by simp) w1 w2
    obtain ⟨e1, e2⟩ := Prod.mk.inj h
    have e1 : pl .swap (pl .front (toldW r).1) = x := e1
    have e2 : pl .swap (pl .front (toldW r).2) = y := e2
    rw [← e1, ← e2, sw_sw (pl_wd _), sw_sw (pl_wd _), this] at h4
    cases h4
  | 0, .swap :: .swap :: r, hl, _ => by simp at hl
  | n + 1, .swap :: .swap :: r, hl, h => by
    obtain ⟨w1, w2, _, _⟩ := told_wd r
    obtain ⟨e1, e2⟩ := Prod.mk.inj h
    have e1 : pl .swap (pl .swap (toldW r).1) = x := e1
    have e2 : pl .swap (pl .swap (toldW r).2) = y := e2
    rw [sw_sw w1] at e1
    rw [sw_sw w2] at e2
    exact stuck wx wy hs h1 h2 hs' h3 h4 n r (by simp at hl; omega) (by rw [← e1, ← e2])
/-- names, one behind the other, put on a word -/
def apl : List Nm → List Nat → List Nat
  | [], w => w
  | n :: r, w => pl n (apl r w)
theorem apl_snoc : ∀ (ns : List Nm) (n : Nm) (w : List Nat), apl (ns ++ [n]) w = apl ns (pl n w)
  | [], _, _ => rfl
  | m :: ns, n, w => by rw [List.cons_append, apl, apl, apl_snoc ns n w]
theorem apl_wd : ∀ (ns : List Nm) {w : List Nat}, Wd w → Wd (apl ns w)
  | [], w, h => h
  | n :: ns, w, h => pl_wd _
theorem apl_told : ∀ (ns : List Nm) {r : List Nm} {x y : List Nat}, Wd x → Wd y → toldW r = (apl ns x, apl ns y) → ∃ r', toldW r' = (x, y)
  | [], r, x, y, _, _, h => ⟨r, h⟩
  | n :: ns, r, x, y, hx, hy, h => by
    obtain ⟨r', e⟩ := cancel_any (apl_wd ns hx) (apl_wd ns hy) h
    exact apl_told ns hx hy e
theorem pl_na {n : Nm} {x y : List Nat} (h : pl n x ++ pl n y ≠ pl n y ++ pl n x) : x ++ y ≠ y ++ x := by
  intro z
  apply h
  rw [← pl_app, ← pl_app, z]
theorem noA_rep : ∀ {w : List Nat}, Wd w → w.count 97 = 0 → w = List.replicate w.length 98
  | [], _, _ => rfl
  | c :: w, h, e => by
    rcases (wd_cons h).1 with rfl | rfl
    · simp at e
    · rw [List.count_cons] at e
      have := noA_rep (wd_cons h).2 (by simpa using e)
      rw [List.length_cons, List.replicate_succ, ← this]
/-- it gets shorter -/
theorem led_less {n : Nm} {u v x y : List Nat} (hu : Wd u) (hv : Wd v) (hna : u ++ v ≠ v ++ u) (h : ledW n u v = some (x, y)) : x.length + y.length < u.length + v.length ∧ x.length ≤ u.length ∧ y.length ≤ v.length ∧ x ++ y ≠ y ++ x := by
  obtain ⟨hn, e1, e2, wx, wy⟩ := led_some hu hv h
  have na : x ++ y ≠ y ++ x := by
    rw [← e1, ← e2] at hna
    exact pl_na hna
  have ct : ∀ {w : List Nat}, Wd w → (pl n w).count 97 = w.count 97 + w.count 98 ∧ (pl n w).count 98 = w.count 97 := by
    intro w hw
    cases n with
    | back => exact ct_back hw
    | front => exact ct_front hw
    | swap => exact absurd rfl hn
  have c1 := ct wx
  have c2 := ct wy
  rw [e1] at c1
  rw [e2] at c2
  have l1 := len_ct hu
  have l2 := len_ct hv
  have l3 := len_ct wx
  have l4 := len_ct wy
  refine ⟨?_, by omega, by omega, na⟩
  rcases Nat.eq_zero_or_pos (x.count 97 + y.count 97) with z | z
  · exfalso
    apply na
    obtain ⟨i, k1⟩ : ∃ i, x = List.replicate i 98 := ⟨_, noA_rep wx (by omega)⟩
    obtain ⟨j, k2⟩ : ∃ j, y = List.replicate j 98 := ⟨_, noA_rep wy (by omega)⟩
    rw [k1, k2, List.replicate_append_replicate, List.replicate_append_replicate, Nat.add_comm]
  · omega
end EK

set_option Elab.async false
set_option linter.all false
set_option maxRecDepth 100000
set_option maxHeartbeats 4000000
namespace EK
open PySem L2 PySem.Spec PyProof.Rows
section
variable {Φ Φf : Str → Option Fsem} {G : Str → Option D} {fuel : Nat}
/-! ### plain.py: swapped, front_of, back_of, led_by, do_agree -/
def bSwapped : List CS := [.ret (.mth .join (.con (.str [])) (.lc (.ite (.cmp .Eq (.var 1) (.con (.str [97]))) (.con (.str [98])) (.con (.str [97]))) (.one 1) .seq [.var 0] (.con (.bl true)) [("letter", 1)]))]
def SwOk (F : Fsem) : Prop := ∀ (w : List Nat) (S : Sto), Wd w → w.length ≤ 1000 → F [.str w] S = .ok (.str (pl .swap w)) S
theorem swOk : SwOk (fsem Φ Φf G fuel 1 2 bSwapped) := by
  intro w S hw hl
  have e0 : ∀ elt, elt = ev Φ G (.ite (.cmp .Eq (.var 1) (.con (.str [97]))) (.con (.str [98])) (.con (.str [97]))) → lcLoop (fun _ S => .ok (.bl true) S) elt (.one 1) [some (.str w), none] (w.map fun c => .str [c]) [] S = .ok (.lst (w.map fun c => .str [flip c])) S := by
    rintro elt rfl
    rw [lc_at (fun c => .str [c]) (fun c => .str [flip c]) _ _ fun c hc => ⟨_, rfl, rfl, ?_, rfl⟩]
    · rfl
    · by_cases h : c = 97 <;> simp [flip, h]
  have e1 := e0 _ rfl
  have hz : w.length ≤ 16777216 := by omega
  have j := join_letters (f := flip) (ks := w) (by show w.length ≤ 16777216; omega)
  rw [pl_swap_flip hw]
  simp at e1
  simp [bSwapped, e1, szL, hz, j]
def lFront : List CS := [.ite (.cmp .Eq (.var 3) (.con (.str [97]))) [.set (.one 1) (.bin .Add (.var 1) (.ite (.cmp .Eq (.sl (.var 0) (.bin .Add (.var 2) (.con (.int 1))) (.bin .Add (.var 2) (.con (.int 2)))) (.con (.str [98]))) (.con (.str [97])) (.con (.str [98]))))] []]
def bFront : List CS := [.ite (.or (.cmp .Eq (.sl (.var 0) (.con .non) (.con (.int 1))) (.con (.str [98]))) (.cmp .In (.con (.str [98, 98])) (.var 0))) [.ret (.lst [])] [],
  .set (.one 1) (.con (.str [])),
  .loop (.many [2, 3]) .enm [.var 0] lFront,
  .ret (.lst [.var 1])]
def stL1 (o : Option (List Nat)) : D := .lst (o.toList.map .str)
def FfOk (F : Fsem) : Prop := ∀ (w : List Nat) (S : Sto), w.length ≤ 1000 → F [.str w] S = .ok (stL1 (fo w)) S
theorem enum_str : ∀ (w : List Nat) (k i : Nat) {x : D}, (enumFrom k (w.map fun c => .str [c]))[i]? = some x → ∃ c, w[i]? = some c ∧ x = .tup [.int ((k + i : Nat) : Int), .str [c]]
  | [], k, i, x, h => by simp [enumFrom] at h
  | c :: w, k, 0, x, h => by
    simp [enumFrom] at h
    exact ⟨c, rfl, h.symm⟩
  | c :: w, k, i + 1, x, h => by
    rw [List.map_cons, enumFrom, List.getElem?_cons_succ] at h
    obtain ⟨d, e1, e2⟩ := enum_str w (k + 1) i h
    refine ⟨d, by simpa using e1, ?_⟩
    rw [e2, show k + 1 + i = k + (i + 1) by omega]
theorem enumP_len : ∀ (w : List D) (k : Nat), (enumFrom k w).length = w.length
  | [], k => rfl
  | c :: w, k => by rw [enumFrom, List.length_cons, List.length_cons, enumP_len w]
theorem frP_len : ∀ w : List Nat, (frP w).length ≤ w.length
  | [] => by simp [frP]
  | c :: r => by
    have := frP_len r
    rw [frP, List.length_append, List.length_cons]
    split
    · simp; omega
    · simp; omega
theorem sl_next {w : List Nat} {i : Nat} (h : i + 1 ≤ w.length) (hz : w.length ≤ 1000) : slD (.str w) (some ((i : Int) + 1)) (some ((i : Int) + 2)) = some (.str ((w.drop (i + 1)).take 1)) := by
  show (if w.length ≤ szL then some (D.str (cutL w _ _)) else none) = _
  rw [if_pos (by show w.length ≤ 16777216; omega)]
  rw [cut_any (p := i + 1) (L := 1) (by omega) (by omega) (by omega)]
theorem ffOk : FfOk (fsem Φ Φf G fuel 1 4 bFront) := by
  intro w S hl
  have hz : w.length ≤ 16777216 := by omega
  have s1 := sl_to (t := w) (i := 1) (s := 1) hz rfl
  have hin : cmpD .In (.str [98, 98]) (.str w) = some (.bl (infB [98, 98] w)) := rfl
  by_cases h1 : w.take 1 = [98]
  · have e : fo w = none := by unfold fo; rw [if_pos (.inl h1)]
    rw [e]
    simp [bFront, s1, h1, szL, stL1]
  · by_cases h2 : infB [98, 98] w = true
    · have e : fo w = none := by unfold fo; rw [if_pos (.inr h2)]
      rw [e]
      simp [bFront, s1, h1, hin, h2, szL, stL1]
    · have e : fo w = some (frP w) := by
        unfold fo; rw [if_neg]
        rintro (z | z)
        · exact h1 z
        · exact h2 z
      have h2 : infB [98, 98] w = false := by simpa using h2
      rw [e]
      have hb : ∀ (i c : Nat) (f : List Nat) (y : Option D), w[i]? = some c → f.length ≤ i → exSs Φ Φf G fuel S.length lFront [some (.str w), some (.str f), some (.int (i : Nat)), some (.str [c])] S = .next [some (.str w), some (.str (f ++ (if c = 97 then [if (w.drop (i + 1)).take 1 = [98] then 97 else 98] else []))), some (.int (i : Nat)), some (.str [c])] S := by
        intro i c f y hc hf
        have hi := (List.getElem?_eq_some_iff.mp hc).1
        have sn := sl_next (w := w) (i := i) (by omega) hl
        by_cases hc97 : c = 97
        · by_cases hn : (w.drop (i + 1)).take 1 = [98]
          · have ad := add_str (s := f) (t := [97]) (by simp [szL]; omega)
            simp [lFront, hc97, sn, hn, ad]
          · have ad := add_str (s := f) (t := [98]) (by simp [szL]; omega)
            simp [lFront, hc97, sn, hn, ad]
        · simp [lFront, hc97]
      have key := loop0 (body := exSs Φ Φf G fuel S.length lFront) (tg := .many [2, 3]) (items := enumFrom 0 (w.map fun c => .str [c]))
        (fun i Γ S' => S' = S ∧ ∃ f x y, Γ = [some (.str w), some (.str f), x, y] ∧ f ++ frP (w.drop i) = frP w ∧ f.length ≤ i)
        (fun r => ∃ x y, r = .next [some (.str w), some (.str (frP w)), x, y] S)
        (Γ := [some (.str w), some (.str []), none, none]) (S := S)
        ⟨rfl, [], none, none, rfl, by simp, by simp⟩ (fun i x Γ S' hi hI => ?_) (fun Γ S' ⟨e1, f, x, y, e2, e3, _⟩ => ?_)
      · obtain ⟨x, y, key⟩ := key
        have it : itD .enm [.str w] = some (enumFrom 0 (w.map fun c => .str [c])) := rfl
        simp [bFront, s1, h1, hin, h2, szL, stL1, it, key]
      · obtain ⟨rfl, f, y, z, rfl, e3, e4⟩ := hI
        obtain ⟨c, hc, rfl⟩ := enum_str w 0 i hi
        rw [Nat.zero_add]
        refine ⟨_, rfl, .inl ⟨_, _, hb i c f y hc e4, rfl, _, _, _, rfl, ?_, ?_⟩⟩
        · rw [← e3]
          obtain ⟨hlt, hg⟩ := List.getElem?_eq_some_iff.mp hc
          rw [List.drop_eq_getElem_cons hlt, hg, frP, List.append_assoc]
        · rw [List.length_append]
          split <;> simp <;> omega
      · subst e1
        rw [enumP_len, List.length_map, List.drop_length] at e3
        simp [frP] at e3
        rw [e2, e3]
        exact ⟨_, _, rfl⟩
def bBackOf : List CS := [.ret (.lc (.rev (.var 1)) (.one 1) .seq [.call "front_of" [.rev (.var 0)]] (.con (.bl true)) [("one", 1)])]
def BfOk (F : Fsem) : Prop := ∀ (w : List Nat) (S : Sto), w.length ≤ 1000 → F [.str w] S = .ok (stL1 (bo w)) S
theorem bfOk {F : Fsem} (e : Φ "front_of" = some F) (h : FfOk F) : BfOk (fsem Φ Φf G fuel 1 2 bBackOf) := by
  intro w S hl
  have hz : w.length ≤ 16777216 := by omega
  have r1 : revD (.str w) = some (.str w.reverse) := by show (if _ then _ else _) = _; rw [if_pos hz]
  have a := h w.reverse S (by simpa using hl)
  unfold bo
  cases ef : fo w.reverse with
  | none =>
    rw [ef] at a
    have a : F [.str w.reverse] S = .ok (.lst []) S := a
    simp [bBackOf, r1, e, a, lcLoop, stL1, szL]
  | some x =>
    rw [ef] at a
    have a : F [.str w.reverse] S = .ok (.lst [.str x]) S := a
    have hx : x.length ≤ 16777216 := by
      unfold fo at ef
      split at ef
      · cases ef
      · cases ef
        have := frP_len w.reverse
        rw [List.length_reverse] at this
        omega
    have r2 : revD (.str x) = some (.str x.reverse) := by show (if _ then _ else _) = _; rw [if_pos hx]
    simp [bBackOf, r1, e, a, lcLoop, stL1, szL, r2]
def bLedBy : List CS := [.set (.one 2) (.bin .Add (.callv 1 [.idx (.var 0) (.con (.int 0))]) (.callv 1 [.idx (.var 0) (.con (.int 1))])),
  .ret (.ite (.cmp .Eq (.blt .len [.var 2]) (.con (.int 2))) (.blt .tuple [.var 2]) (.tup []))]
def ledD : Option (List Nat × List Nat) → D
  | some (x, y) => pd x y
  | none => .tup []
def nmF : Nm → Str
  | .back => "back_of"
  | .front => "front_of"
  | .swap => ""
def LbOk (F : Fsem) : Prop := ∀ (n : Nm) (u v : List Nat) (S : Sto), n ≠ .swap → u.length ≤ 1000 → v.length ≤ 1000 → F [pd u v, .fn (nmF n)] S = .ok (ledD (ledW n u v)) S
theorem lbOk {Fb Ff : Fsem} (eb : Φ "back_of" = some Fb) (hb : BfOk Fb) (ef : Φ "front_of" = some Ff) (hf : FfOk Ff) : LbOk (fsem Φ Φf G fuel 2 3 bLedBy) := by
  intro n u v S hn lu lv
  obtain ⟨F, e, h⟩ : ∃ F, Φ (nmF n) = some F ∧ ∀ (w : List Nat) (S : Sto), w.length ≤ 1000 → F [.str w] S = .ok (stL1 (ways n w)) S := by
    cases n with
    | back => exact ⟨Fb, eb, hb⟩
    | front => exact ⟨Ff, ef, hf⟩
    | swap => exact absurd rfl hn
  have a1 := h u S lu
  have a2 := h v S lv
  unfold ledW
  generalize ways n u = p at a1 ⊢
  generalize ways n v = q at a2 ⊢
  generalize nmF n = x at e ⊢
  cases p with
  | none =>
    have a1 : F [.str u] S = .ok (.lst []) S := a1
    cases q with
    | none =>
      have a2 : F [.str v] S = .ok (.lst []) S := a2
      have ad : addD (.lst []) (.lst []) = some (.lst []) := addL (by simp [szL])
      have ln : lenD [.lst []] = some (.int 0) := rfl
      simp [bLedBy, e, a1, a2, ad, ln, ledD, szL]
    | some y =>
      have a2 : F [.str v] S = .ok (.lst [.str y]) S := a2
      have ad : addD (.lst []) (.lst [.str y]) = some (.lst [.str y]) := addL (by simp [szL])
      have ln : lenD [.lst [.str y]] = some (.int 1) := rfl
      simp [bLedBy, e, a1, a2, ad, ln, ledD, szL]
  | some x' =>
    have a1 : F [.str u] S = .ok (.lst [.str x']) S := a1
    cases q with
    | none =>
      have a2 : F [.str v] S = .ok (.lst []) S := a2
      have ad : addD (.lst [.str x']) (.lst []) = some (.lst [.str x']) := addL (by simp [szL])
      have ln : lenD [.lst [.str x']] = some (.int 1) := rfl
      simp [bLedBy, e, a1, a2, ad, ln, ledD, szL]
    | some y =>
      have a2 : F [.str v] S = .ok (.lst [.str y]) S := a2
      have ad : addD (.lst [.str x']) (.lst [.str y]) = some (.lst [.str x', .str y]) := addL (by simp [szL])
      have ln : lenD [.lst [.str x', .str y]] = some (.int 2) := rfl
      have tp : tupleD [.lst [.str x', .str y]] = some (pd x' y) := rfl
      simp [bLedBy, e, a1, a2, ad, ln, ledD, szL, tp]
def bAgree : List CS := [.ret (.cmp .Eq (.bin .Add (.idx (.var 0) (.con (.int 0))) (.idx (.var 0) (.con (.int 1)))) (.bin .Add (.idx (.var 0) (.con (.int 1))) (.idx (.var 0) (.con (.int 0)))))]
def AgOk (F : Fsem) : Prop := ∀ (u v : List Nat) (S : Sto), u.length ≤ 1000 → v.length ≤ 1000 → F [pd u v] S = .ok (.bl (decide (u ++ v = v ++ u))) S
theorem agOk : AgOk (fsem Φ Φf G fuel 1 1 bAgree) := by
  intro u v S lu lv
  have a1 := add_str (s := u) (t := v) (by simp [szL]; omega)
  have a2 := add_str (s := v) (t := u) (by simp [szL]; omega)
  simp [bAgree, a1, a2]
end
end EK

set_option Elab.async false
set_option linter.all false
set_option maxRecDepth 100000
set_option maxHeartbeats 4000000
namespace EK
open PySem L2 PySem.Spec PyProof.Rows
section
variable {Φ Φf : Str → Option Fsem} {G : Str → Option D} {fuel : Nat}
/-! ### row_in -/
def lRow : List CS := [.par [3, 4] [.inl (.call "led_by" [.var 1, .fnv "back_of"]), .inl (.call "led_by" [.var 1, .fnv "front_of"])],
  .ite (.cmp .NotEq (.var 3) (.tup [])) [.set (.one 1) (.var 3),
  .app 2 (.glob "BACK")] [.ite (.cmp .NotEq (.var 4) (.tup [])) [.set (.one 1) (.var 4),
  .app 2 (.glob "FRONT")] [.ite (.cmp .Eq (.sl (.var 2) (.neg (.con (.int 1))) (.con .non)) (.lst [.glob "SWAP"])) [.ret (.con .non)] [.set (.one 1) (.tup [.call "swapped" [.idx (.var 1) (.con (.int 0))], .call "swapped" [.idx (.var 1) (.con (.int 1))]]),
  .app 2 (.glob "SWAP")]]]]
def cRow : CE := .cmp .NotEq (.var 1) (.glob "SAME")
def bRowIn : List CS := [.ite (.call "do_agree" [.var 0]) [.ret (.con .non)] [],
  .par [1, 2] [.inl (.var 0), .inr (.lst [])],
  .while cRow lRow,
  .frz 2,
  .ret (.blt .tuple [.var 2])]
def rowD : Option (List Nm) → D
  | some ns => .tup (ns.map nmD)
  | none => .non
/-- what is told of a pair: the row that is found, none exactly if no row tells it -/
def RowS (u v : List Nat) (o : Option (List Nm)) : Prop := match o with
  | some ns => Gre ns u v ∧ ns.length ≤ 300
  | none => ∀ r, toldW r ≠ (u, v)
def RiOk (F : Fsem) : Prop := ∀ (u v : List Nat) (S : Sto), Rp u v → ∃ o, F [pd u v] S = .ok (rowD o) S ∧ RowS u v o
instance decNm : DecidableEq Nm := fun a b => match a, b with
  | .back, .back => isTrue rfl
  | .front, .front => isTrue rfl
  | .swap, .swap => isTrue rfl
  | .back, .front => isFalse (by intro h; cases h)
  | .back, .swap => isFalse (by intro h; cases h)
  | .front, .back => isFalse (by intro h; cases h)
  | .front, .swap => isFalse (by intro h; cases h)
  | .swap, .back => isFalse (by intro h; cases h)
  | .swap, .front => isFalse (by intro h; cases h)
theorem cut_last {xs : List D} {z : D} : cutL (xs ++ [z]) (some (-1)) none = [z] := by
  unfold cutL
  simp [HT.sIx]
  rw [List.drop_append_of_le_length (by omega), List.drop_eq_nil_of_le (by omega)]
  rw [show (-1 + ((xs.length : Int) + 1)).toNat = xs.length by omega, show xs.length + 1 - xs.length = 1 by omega]
  rfl
theorem swap_last {ns : List Nm} (h : ns.length ≤ 300) : cmpD .Eq (.lst (cutL (ns.map nmD) (some (-1)) none)) (.lst [nmD .swap]) = some (.bl (decide (ns.getLast? = some .swap))) := by
  rcases List.eq_nil_or_concat ns with rfl | ⟨r, n, rfl⟩
  · exact ceq_no (n := 1) (m := 1) rfl rfl (by omega) (by omega) rfl rfl (by intro z; injection z with z; cases z)
  · rw [List.concat_eq_append, List.map_append, List.map_cons, List.map_nil, cut_last]
    cases n
    · rw [decide_eq_false (by simp)]; exact ceq_no (n := 1) (m := 1) rfl rfl (by omega) (by omega) rfl rfl (by intro z; injection z with z; simp [nmD, Nm.s] at z)
    · rw [decide_eq_false (by simp)]; exact ceq_no (n := 1) (m := 1) rfl rfl (by omega) (by omega) rfl rfl (by intro z; injection z with z; simp [nmD, Nm.s] at z)
    · rw [decide_eq_true (by simp)]; exact ceq_ok (n := 1) rfl (by omega)
section
variable {Fl Fw : Fsem}
theorem led_wd {n : Nm} {u v : List Nat} (hu : Wd u) (hv : Wd v) : (∃ x y, ledW n u v = some (x, y) ∧ Wd x ∧ Wd y) ∨ ledW n u v = none := by
  cases e : ledW n u v with
  | none => exact .inr rfl
  | some p =>
    obtain ⟨x, y⟩ := p
    obtain ⟨_, _, _, wx, wy⟩ := led_some hu hv e
    exact .inl ⟨x, y, rfl, wx, wy⟩
theorem rowA (el : Φ "led_by" = some Fl) (hl : LbOk Fl) (ew : Φ "swapped" = some Fw) (hw : SwOk Fw) {Fb Ff : Fsem} (eb : Φ "back_of" = some Fb) (ef : Φ "front_of" = some Ff)
    (g1 : G "BACK" = some (nmD .back)) (g2 : G "FRONT" = some (nmD .front)) (g3 : G "SWAP" = some (nmD .swap)) {S : Sto} {A : Option D} {x y : List Nat} {ns : List Nm} {b f : Option D} (wx : Wd x) (wy : Wd y) (lx : x.length ≤ 1000) (ly : y.length ≤ 1000) (hn : ns.length ≤ 300) :
    (∃ x' y' b' f', ledW .back x y = some (x', y') ∧ exSs Φ Φf G fuel S.length lRow [A, some (pd x y), some (.loc S.length), b, f] (S ++ [.lst (ns.map nmD)]) = .next [A, some (pd x' y'), some (.loc S.length), b', f'] (S ++ [.lst ((ns ++ [Nm.back]).map nmD)])) ∨
    (∃ x' y' b' f', ledW .back x y = none ∧ ledW .front x y = some (x', y') ∧ exSs Φ Φf G fuel S.length lRow [A, some (pd x y), some (.loc S.length), b, f] (S ++ [.lst (ns.map nmD)]) = .next [A, some (pd x' y'), some (.loc S.length), b', f'] (S ++ [.lst ((ns ++ [Nm.front]).map nmD)])) ∨
    (ledW .back x y = none ∧ ledW .front x y = none ∧ ns.getLast? = some .swap ∧ exSs Φ Φf G fuel S.length lRow [A, some (pd x y), some (.loc S.length), b, f] (S ++ [.lst (ns.map nmD)]) = .ret .non (S ++ [.lst (ns.map nmD)]) false) ∨
    (∃ b' f', ledW .back x y = none ∧ ledW .front x y = none ∧ ns.getLast? ≠ some .swap ∧ exSs Φ Φf G fuel S.length lRow [A, some (pd x y), some (.loc S.length), b, f] (S ++ [.lst (ns.map nmD)]) = .next [A, some (pd (pl .swap x) (pl .swap y)), some (.loc S.length), b', f'] (S ++ [.lst ((ns ++ [Nm.swap]).map nmD)])) := by
  have hz : ns.length < szL := by show ns.length < 16777216; omega
  have e1 := hl .back x y (S ++ [.lst (ns.map nmD)]) (by simp) lx ly
  have e2 := hl .front x y (S ++ [.lst (ns.map nmD)]) (by simp) lx ly
  have e1 : Fl [pd x y, .fn "back_of"] (S ++ [.lst (ns.map nmD)]) = _ := e1
  have e2 : Fl [pd x y, .fn "front_of"] (S ++ [.lst (ns.map nmD)]) = _ := e2
  have q0 : cmpD .NotEq (.tup []) (.tup []) = some (.bl false) := rfl
  have nl : ∀ n : Nm, noLoc (nmD n) = true := fun n => rfl
  rcases led_wd (n := .back) wx wy with ⟨x', y', k, wx', wy'⟩ | k
  · left
    rw [k] at e1
    have q := cne_pd0 wx' wy'
    refine ⟨x', y', some (pd x' y'), some (ledD (ledW .front x y)), k, ?_⟩
    generalize ledD (ledW .front x y) = D2 at e2 ⊢
    simp [lRow, el, eb, ef, e1, e2, ledD, q, g1, nl, hz]
  · right
    rw [k] at e1
    rcases led_wd (n := .front) wx wy with ⟨x', y', k2, wx', wy'⟩ | k2
    · left
      rw [k2] at e2
      have q := cne_pd0 wx' wy'
      refine ⟨x', y', some (.tup []), some (pd x' y'), k, k2, ?_⟩
      simp [lRow, el, eb, ef, e1, e2, ledD, q, q0, g2, nl, hz, szL]
    · right
      rw [k2] at e2
      have sl := swap_last hn
      have sd : slD (.lst (ns.map nmD)) (some (-1)) none = some (.lst (cutL (ns.map nmD) (some (-1)) none)) := rfl
      by_cases hs : ns.getLast? = some .swap
      · left
        rw [decide_eq_true hs] at sl
        refine ⟨k, k2, hs, ?_⟩
        generalize cutL (ns.map nmD) (some (-1)) none = cs at sl sd
        simp [lRow, el, eb, ef, e1, e2, ledD, q0, g3, nl, hz, sd, sl, szL]
      · right
        rw [decide_eq_false hs] at sl
        have s1 := hw x (S ++ [.lst (ns.map nmD)]) wx lx
        have s2 := hw y (S ++ [.lst (ns.map nmD)]) wy ly
        refine ⟨some (.tup []), some (.tup []), k, k2, hs, ?_⟩
        generalize cutL (ns.map nmD) (some (-1)) none = cs at sl sd
        simp [lRow, el, eb, ef, ew, e1, e2, s1, s2, ledD, q0, g3, nl, hz, sd, sl, szL]
end
end
end EK

set_option Elab.async false
set_option linter.all false
set_option maxRecDepth 100000
set_option maxHeartbeats 4000000
namespace EK
open PySem L2 PySem.Spec PyProof.Rows
section
variable {Φ Φf : Str → Option Fsem} {G : Str → Option D} {fuel : Nat}
/-- where the loop of row_in stands -/
structure RoI (u v : List Nat) (i : Nat) (x y : List Nat) (ns : List Nm) : Prop where
  wx : Wd x
  wy : Wd y
  na : x ++ y ≠ y ++ x
  m : 2 * (x.length + y.length) + (if ns.getLast? = some .swap then 0 else 1) + i ≤ 2 * (u.length + v.length) + 1
  l : ns.length ≤ i
  ax : apl ns x = u
  ay : apl ns y = v
  sw : ns.getLast? = some .swap → ledW .back (pl .swap x) (pl .swap y) = none ∧ ledW .front (pl .swap x) (pl .swap y) = none ∧ ¬ (pl .swap x = [97] ∧ pl .swap y = [98])
  go : ∀ r, Gre r x y → (ns.getLast? = some .swap → r.head? ≠ some .swap) → Gre (ns ++ r) u v
theorem RoI.zero {u v : List Nat} (hu : Wd u) (hv : Wd v) (h : u ++ v ≠ v ++ u) : RoI u v 0 u v [] :=
  ⟨hu, hv, h, by simp, by simp, rfl, rfl, fun z => by simp at z, fun r g _ => g⟩
theorem RoI.led {u v x y x' y' : List Nat} {i : Nat} {ns : List Nm} {n : Nm} (I : RoI u v i x y ns) (h : ledW n x y = some (x', y')) (hg : ∀ r, Gre r x' y' → Gre (n :: r) x y) : RoI u v (i + 1) x' y' (ns ++ [n]) := by
  obtain ⟨hn, e1, e2, wx, wy⟩ := led_some I.wx I.wy h
  obtain ⟨l1, l2, l3, na⟩ := led_less I.wx I.wy I.na h
  refine ⟨wx, wy, na, ?_, ?_, ?_, ?_, ?_, ?_⟩
  · have := I.m
    have : (if (ns ++ [n]).getLast? = some .swap then 0 else 1) ≤ 1 := by split <;> omega
    omega
  · have := I.l
    simp; omega
  · rw [apl_snoc, e1, I.ax]
  · rw [apl_snoc, e2, I.ay]
  · intro z
    simp at z
    exact absurd z hn
  · intro r g _
    rw [List.append_assoc]
    refine I.go _ (hg r g) fun _ => ?_
    simp
    exact hn
theorem RoI.swp {u v x y : List Nat} {i : Nat} {ns : List Nm} (I : RoI u v i x y ns) (hs : ¬ (x = [97] ∧ y = [98])) (h1 : ledW .back x y = none) (h2 : ledW .front x y = none) (hl : ns.getLast? ≠ some .swap) : RoI u v (i + 1) (pl .swap x) (pl .swap y) (ns ++ [Nm.swap]) := by
  have c1 := ct_swap I.wx
  have c2 := ct_swap I.wy
  have k1 := len_ct I.wx
  have k2 := len_ct I.wy
  have k3 := len_ct (pl_wd (n := .swap) x)
  have k4 := len_ct (pl_wd (n := .swap) y)
  refine ⟨pl_wd _, pl_wd _, ?_, ?_, ?_, ?_, ?_, ?_, ?_⟩
  · intro z
    apply I.na
    rw [← pl_app, ← pl_app] at z
    exact pl_inj (wdA.mpr ⟨I.wx, I.wy⟩) (wdA.mpr ⟨I.wy, I.wx⟩) z
  · have := I.m
    rw [if_neg hl] at this
    rw [if_pos (by simp)]
    omega
  · have := I.l
    simp; omega
  · rw [apl_snoc, sw_sw I.wx, I.ax]
  · rw [apl_snoc, sw_sw I.wy, I.ay]
  · intro _
    rw [sw_sw I.wx, sw_sw I.wy]
    exact ⟨h1, h2, hs⟩
  · intro r g hr
    rw [List.append_assoc]
    refine I.go _ ⟨h1, h2, hr (by simp), g⟩ fun z => absurd z hl
theorem riOk {Fa Fl Fw Fb Ff : Fsem} (ea : Φ "do_agree" = some Fa) (ha : AgOk Fa) (el : Φ "led_by" = some Fl) (hl : LbOk Fl) (ew : Φ "swapped" = some Fw) (hw : SwOk Fw) (eb : Φ "back_of" = some Fb) (ef : Φ "front_of" = some Ff)
    (g0 : G "SAME" = some (pd [97] [98])) (g1 : G "BACK" = some (nmD .back)) (g2 : G "FRONT" = some (nmD .front)) (g3 : G "SWAP" = some (nmD .swap)) (hf : 300 ≤ fuel) : RiOk (fsem Φ Φf G fuel 1 5 bRowIn) := by
  intro u v S r
  have lu := r.u2
  have lv := r.v2
  have a := ha u v S (by omega) (by omega)
  by_cases hag : u ++ v = v ++ u
  · rw [decide_eq_true hag] at a
    refine ⟨none, ?_, ?_⟩
    · simp [bRowIn, ea, a, rowD]
    · intro q e
      have := told_na q
      rw [e] at this
      exact this hag
  · rw [decide_eq_false hag] at a
    have wS : Wd [97] := fun c h => by simp at h; exact .inl h
    have wT : Wd [98] := fun c h => by simp at h; exact .inr h
    have key := while_ind (cond := ev Φ G cRow) (body := exSs Φ Φf G fuel S.length lRow)
      (post := fun q => (∃ ns b f, q = .next [some (pd u v), some (pd [97] [98]), some (.loc S.length), b, f] (S ++ [.lst (ns.map nmD)]) ∧ RowS u v (some ns)) ∨ (∃ xs, q = .ret .non (S ++ [.lst xs]) false ∧ RowS u v none))
      (fun i Γ S' => ∃ x y ns b f, Γ = [some (pd u v), some (pd x y), some (.loc S.length), b, f] ∧ S' = S ++ [.lst (ns.map nmD)] ∧ RoI u v i x y ns) (2 * (u.length + v.length) + 2)
      (fun i Γ S' hi hI => ?_) (fun Γ S' hI => ?_) (2 * (u.length + v.length) + 2) 0 fuel [some (pd u v), some (pd u v), some (.loc S.length), none, none] (S ++ [.lst []]) (by omega) (by omega) ⟨u, v, [], none, none, rfl, rfl, RoI.zero r.wu r.wv hag⟩
    · rcases key with ⟨ns, b, f, e, hg⟩ | ⟨xs, e, hg⟩
      · refine ⟨some ns, ?_, hg⟩
        have tp : ∀ xs : List D, tupleD [.lst xs] = some (.tup xs) := fun _ => rfl
        simp [bRowIn, ea, a, e, szL, tp, rowD]
      · refine ⟨none, ?_, hg⟩
        simp [bRowIn, ea, a, e, szL, rowD]
    · obtain ⟨x, y, ns, b, f, rfl, rfl, I⟩ := hI
      have hm := I.m
      have hl' := I.l
      have lx : x.length ≤ 1000 := by omega
      have ly : y.length ≤ 1000 := by omega
      have hn : ns.length ≤ 300 := by omega
      have c := cne_pd I.wx I.wy wS wT
      by_cases hs : x = [97] ∧ y = [98]
      · right
        rw [decide_eq_true hs] at c
        refine ⟨_, ?_, .inl ⟨ns, b, f, by rw [hs.1, hs.2], ?_, hn⟩⟩
        · simp [cRow, g0, c]
        · have := I.go [] (by rw [hs.1, hs.2]; exact ⟨rfl, rfl⟩) (fun _ => by simp)
          rwa [List.append_nil] at this
      · left
        rw [decide_eq_false hs] at c
        refine ⟨S ++ [.lst (ns.map nmD)], by simp [cRow, g0, c], ?_⟩
        rcases rowA (fuel := fuel) (Φf := Φf) (S := S) (A := some (pd u v)) (b := b) (f := f) el hl ew hw eb ef g1 g2 g3 I.wx I.wy lx ly hn with ⟨x', y', b', f', k, e⟩ | ⟨x', y', b', f', k1, k, e⟩ | ⟨k1, k2, k3, e⟩ | ⟨b', f', k1, k2, k3, e⟩
        · exact .inl ⟨_, _, e, x', y', ns ++ [.back], b', f', rfl, rfl, I.led (n := .back) k fun r g => show Gre (.back :: r) x y from ⟨x', y', k, g⟩⟩
        · exact .inl ⟨_, _, e, x', y', ns ++ [.front], b', f', rfl, rfl, I.led (n := .front) k fun r g => show Gre (.front :: r) x y from ⟨k1, x', y', k, g⟩⟩
        · refine .inr ⟨_, _, _, e, .inr ⟨_, rfl, ?_⟩⟩
          intro q eq
          obtain ⟨s1, s2, s3⟩ := I.sw k3
          rw [← I.ax, ← I.ay] at eq
          obtain ⟨q', e'⟩ := apl_told ns I.wx I.wy eq
          exact stuck I.wx I.wy hs k1 k2 s3 s1 s2 _ q' (Nat.le_refl _) e'
        · exact .inl ⟨_, _, e, _, _, ns ++ [.swap], b', f', rfl, rfl, I.swp hs k1 k2 k3⟩
    · obtain ⟨x, y, ns, b, f, rfl, rfl, I⟩ := hI
      have := I.m
      omega
end
end EK

set_option Elab.async false
set_option linter.all false
set_option maxRecDepth 100000
set_option maxHeartbeats 4000000
namespace EK
open PySem L2 PySem.Spec PyProof.Rows
section
variable {Φ Φf : Str → Option Fsem} {G : Str → Option D} {fuel : Nat}
/-! ### keeping.py: root_of, powers_in, keeps_in, keeps -/
theorem pw_rep {r : List Nat} : ∀ k, (List.replicate k r).flatten = pw r k
  | 0 => rfl
  | k + 1 => by rw [List.replicate_succ, List.flatten_cons, pw_rep k, pw]
def lRoot : List CS := [.ite (.and (.cmp .Eq (.bin .Mod (.blt .int [.blt .len [.var 0]]) (.var 1)) (.con (.int 0))) (.cmp .Eq (.bin .Mult (.sl (.var 0) (.con .non) (.var 1)) (.bin .FloorDiv (.blt .len [.var 0]) (.var 1))) (.var 0))) [.ret (.sl (.var 0) (.con .non) (.var 1))] []]
def bRootOf : List CS := [.loop (.one 1) .rng [.con (.int 1), .bin .Add (.blt .len [.var 0]) (.con (.int 1))] lRoot, .ret (.var 0)]
/-- a word of which another one is a power -/
def Root (w r : List Nat) : Prop := ∃ k, 1 ≤ k ∧ 0 < r.length ∧ pw r k = w
def RtsOk (F : Fsem) : Prop := ∀ (w : List Nat) (S : Sto), 1 ≤ w.length → w.length ≤ 900 → ∃ r, F [.str w] S = .ok (.str r) S ∧ Root w r
theorem rtsOk : RtsOk (fsem Φ Φf G fuel 1 2 bRootOf) := by
  intro w S h1 h2
  have hz : w.length ≤ 16777216 := by omega
  have ln := lenS_of (s := w) (by omega)
  have hb : ∀ i : Nat, i < w.length → (∃ r, exSs Φ Φf G fuel S.length lRoot [some (.str w), some (.int (1 + (i : Nat)))] S = .ret (.str r) S false ∧ Root w r) ∨ exSs Φ Φf G fuel S.length lRoot [some (.str w), some (.int (1 + (i : Nat)))] S = .next [some (.str w), some (.int (1 + (i : Nat)))] S := by
    intro i hi
    have md := mod_pos (i := (w.length : Int)) (j := 1 + (i : Int)) (by omega)
    have sl := sl_to (t := w) (i := 1 + (i : Int)) (s := i + 1) hz (by omega)
    have ii : intD [.int (w.length : Int)] = some (.int w.length) := rfl
    by_cases c1 : (w.length : Int) % (1 + (i : Int)) = 0
    · have fd := fdiv_pos (i := (w.length : Int)) (j := 1 + (i : Int)) (by omega) (by omega)
      have hm : w.length % (i + 1) = 0 := by
        have : (w.length : Int) % ((i + 1 : Nat) : Int) = 0 := by rw [← c1]; congr 1; omega
        have := Int.natCast_emod w.length (i + 1)
        omega
      have hd : (w.length : Int) / (1 + (i : Int)) = ((w.length / (i + 1) : Nat) : Int) := by
        rw [show (1 + (i : Int)) = ((i + 1 : Nat) : Int) by omega]; rfl
      have k1 : 1 ≤ w.length / (i + 1) := (Nat.le_div_iff_mul_le (by omega)).mpr (by omega)
      have k2 : w.length / (i + 1) ≤ w.length := Nat.div_le_self _ _
      have ml := mul_str (u := w.take (i + 1)) (n := (w.length : Int) / (1 + (i : Int))) (k := w.length / (i + 1)) hd k1 (by omega) (by rw [List.length_take]; omega)
      rw [pw_rep] at ml
      by_cases c2 : pw (w.take (i + 1)) (w.length / (i + 1)) = w
      · left
        refine ⟨w.take (i + 1), ?_, _, k1, by rw [List.length_take]; omega, c2⟩
        rw [c2] at ml
        simp [lRoot, ln, ii, md, c1, sl, fd, ml]
      · right
        generalize pw (w.take (i + 1)) (w.length / (i + 1)) = q at ml c2
        simp [lRoot, ln, ii, md, c1, sl, fd, ml, c2]
    · right
      simp [lRoot, ln, ii, md, c1]
  have key := loop0 (body := exSs Φ Φf G fuel S.length lRoot) (tg := .one 1) (items := rngL 1 w.length)
    (fun i Γ S' => S' = S ∧ ∃ x, Γ = [some (.str w), x])
    (fun q => (∃ r, q = .ret (.str r) S false ∧ Root w r) ∨ ∃ x, q = .next [some (.str w), x] S)
    (Γ := [some (.str w), none]) (S := S) ⟨rfl, none, rfl⟩ (fun i x Γ S' hi hI => ?_) (fun Γ S' ⟨e1, x, e2⟩ => .inr ⟨x, by rw [e1, e2]⟩)
  · have it : itD .rng [.int 1, .int ((w.length : Int) + 1)] = some (rngL 1 w.length) := it_rng2 rfl (in62_of (by omega) (by omega)) (by omega)
    rcases key with ⟨r, e, hr⟩ | ⟨x, e⟩
    · exact ⟨r, by simp [bRootOf, ln, it, e], hr⟩
    · exact ⟨w, by simp [bRootOf, ln, it, e], 1, by omega, by omega, pw_one⟩
  · obtain ⟨rfl, y, rfl⟩ := hI
    obtain ⟨hi', rfl⟩ := rngAt hi
    refine ⟨_, rfl, ?_⟩
    rcases hb i hi' with ⟨r, e, hr⟩ | e
    · exact .inr ⟨_, _, _, e, .inl ⟨r, rfl, hr⟩⟩
    · exact .inl ⟨_, _, e, rfl, _, rfl⟩
def bPowersIn : List CS := [.ret (.ite (.call "do_agree" [.var 0]) (.lst [.call "root_of" [.bin .Add (.idx (.var 0) (.con (.int 0))) (.idx (.var 0) (.con (.int 1)))]]) (.lst []))]
def PiOk (F : Fsem) : Prop := ∀ (u v : List Nat) (S : Sto), Rp u v → (u ++ v = v ++ u ∧ ∃ r, F [pd u v] S = .ok (.lst [.str r]) S ∧ Root (u ++ v) r) ∨ (u ++ v ≠ v ++ u ∧ F [pd u v] S = .ok (.lst []) S)
theorem piOk {Fa Fr : Fsem} (ea : Φ "do_agree" = some Fa) (ha : AgOk Fa) (er : Φ "root_of" = some Fr) (hr : RtsOk Fr) : PiOk (fsem Φ Φf G fuel 1 1 bPowersIn) := by
  intro u v S r
  have lu := r.u2
  have lv := r.v2
  have a := ha u v S (by omega) (by omega)
  by_cases hag : u ++ v = v ++ u
  · left
    rw [decide_eq_true hag] at a
    obtain ⟨q, e, hq⟩ := hr (u ++ v) S (by rw [List.length_append]; have := r.u1; omega) (by rw [List.length_append]; omega)
    have ad := add_str (s := u) (t := v) (by simp [szL]; omega)
    refine ⟨hag, q, ?_, hq⟩
    generalize u ++ v = w at e ad
    simp [bPowersIn, ea, a, er, e, ad, szL]
  · right
    rw [decide_eq_false hag] at a
    exact ⟨hag, by simp [bPowersIn, ea, a, szL]⟩
def lKeeps : List CS := [.ret (.call "is_even_in" [.bin .Add (.var 1) (.var 1)])]
def bKeepsIn : List CS := [.loop (.one 1) .seq [.call "powers_in" [.var 0]] lKeeps,
  .ret (.cmp .IsNot (.call "row_in" [.var 0]) (.con .non))]
/-- a pair that keeps, as the program tells it -/
def Keep (u v : List Nat) : Prop := (u ++ v = v ++ u → NoU ((u ++ v) ++ (u ++ v))) ∧ (u ++ v ≠ v ++ u → ∃ r, toldW r = (u, v))
def KpOk (F : Fsem) : Prop := ∀ (u v : List Nat) (S : Sto), Rp u v → (Keep u v ∧ F [pd u v] S = .ok (.bl true) S) ∨ (¬ Keep u v ∧ F [pd u v] S = .ok (.bl false) S)
theorem root_len {w r : List Nat} (h : Root w r) : r.length ≤ w.length := by
  obtain ⟨k, k1, k2, rfl⟩ := h
  rw [pw_len]
  exact Nat.le_mul_of_pos_left _ k1
theorem root_even {w r : List Nat} (h : Root w r) : NoU (r ++ r) ↔ NoU (w ++ w) := by
  obtain ⟨k, k1, k2, rfl⟩ := h
  exact pw_even' k2 k1
theorem kiOk {Fp Fe Fr : Fsem} (ep : Φ "powers_in" = some Fp) (hp : PiOk Fp) (ee : Φ "is_even_in" = some Fe) (he : EiOk Fe) (er : Φ "row_in" = some Fr) (hr : RiOk Fr) : KpOk (fsem Φ Φf G fuel 1 2 bKeepsIn) := by
  intro u v S r
  have lu := r.u2
  have lv := r.v2
  rcases hp u v S r with ⟨hag, q, e, hq⟩ | ⟨hag, e⟩
  · have lq := root_len hq
    rw [List.length_append] at lq
    have ad := add_str (s := q) (t := q) (by simp [szL]; omega)
    have kp : Keep u v ↔ NoU (q ++ q) := by
      rw [root_even hq]
      exact ⟨fun h => h.1 hag, fun h => ⟨fun _ => h, fun z => absurd hag z⟩⟩
    rw [kp]
    have := he (q ++ q) S (by rw [List.length_append]; show _ < 16777216; omega)
    generalize q ++ q = w at ad this
    rcases this with ⟨hn, e2⟩ | ⟨⟨s, hs⟩, e2⟩
    · exact .inl ⟨hn, by simp [bKeepsIn, lKeeps, ep, e, ee, ad, e2, loopN]⟩
    · exact .inr ⟨fun z => hs.no z, by simp [bKeepsIn, lKeeps, ep, e, ee, ad, e2, loopN]⟩
  · obtain ⟨o, e2, ho⟩ := hr u v S r
    cases o with
    | none =>
      refine .inr ⟨fun z => ?_, ?_⟩
      · obtain ⟨q, hq⟩ := z.2 hag
        exact ho q hq
      · have : cmpD .IsNot .non .non = some (.bl false) := rfl
        have e2 : Fr [pd u v] S = .ok .non S := e2
        simp [bKeepsIn, ep, e, er, e2, loopN, this]
    | some ns =>
      refine .inl ⟨⟨fun z => absurd z hag, fun _ => ⟨ns, gre_told r.wu r.wv ho.1⟩⟩, ?_⟩
      have e2 : Fr [pd u v] S = .ok (.tup (ns.map nmD)) S := e2
      have : ∀ xs : List D, cmpD .IsNot (.tup xs) .non = some (.bl true) := fun _ => rfl
      simp [bKeepsIn, ep, e, er, e2, loopN, this]
def bKeeps : List CS := [.ret (.call "keeps_in" [.call "need_replacement" [.var 0]])]
theorem kpOk {Fk Fn : Fsem} (ek : Φ "keeps_in" = some Fk) (hk : KpOk Fk) (en : Φ "need_replacement" = some Fn) (hn : NrOk Fn) : KpOk (fsem Φ Φf G fuel 1 1 bKeeps) := by
  intro u v S r
  have a := hn u v S r
  rcases hk u v S r with ⟨h, e⟩ | ⟨h, e⟩
  · exact .inl ⟨h, by simp [bKeeps, ek, en, a, e]⟩
  · exact .inr ⟨h, by simp [bKeeps, ek, en, a, e]⟩
end
end EK

set_option Elab.async false
set_option linter.all false
set_option maxRecDepth 100000
set_option maxHeartbeats 4000000
namespace EK
/-! ### the found row: one, shortest, first -/
theorem led0b : ledW .back [97] [98] = none := by decide
theorem led0f : ledW .front [97] [98] = none := by decide
theorem led1b : ledW .back [98] [97] = none := by decide
theorem led1f : ledW .front [98] [97] = none := by decide
theorem gre_uniq : ∀ {g g' : List Nm} {u v : List Nat}, Gre g u v → Gre g' u v → g = g'
  | [], [], _, _, _, _ => rfl
  | [], .back :: r, u, v, h, h' => by
    obtain ⟨rfl, rfl⟩ := h
    obtain ⟨x, y, e, _⟩ := h'
    rw [led0b] at e; cases e
  | [], .front :: r, u, v, h, h' => by
    obtain ⟨rfl, rfl⟩ := h
    obtain ⟨_, x, y, e, _⟩ := h'
    rw [led0f] at e; cases e
  | [], .swap :: r, u, v, h, h' => by
    obtain ⟨rfl, rfl⟩ := h
    exact (gre_swap_same h').elim
  | .back :: r, [], u, v, h', h => by
    obtain ⟨rfl, rfl⟩ := h
    obtain ⟨x, y, e, _⟩ := h'
    rw [led0b] at e; cases e
  | .front :: r, [], u, v, h', h => by
    obtain ⟨rfl, rfl⟩ := h
    obtain ⟨_, x, y, e, _⟩ := h'
    rw [led0f] at e; cases e
  | .swap :: r, [], u, v, h', h => by
    obtain ⟨rfl, rfl⟩ := h
    exact (gre_swap_same h').elim
  | .back :: r, .back :: r', u, v, h, h' => by
    obtain ⟨x, y, e, g⟩ := h
    obtain ⟨x', y', e', g'⟩ := h'
    rw [e] at e'
    cases e'
    rw [gre_uniq g g']
  | .back :: r, .front :: r', u, v, h, h' => by
    obtain ⟨x, y, e, g⟩ := h
    rw [h'.1] at e
    cases e
  | .back :: r, .swap :: r', u, v, h, h' => by
    obtain ⟨x, y, e, g⟩ := h
    rw [h'.1] at e
    cases e
  | .front :: r, .back :: r', u, v, h', h => by
    obtain ⟨x, y, e, g⟩ := h
    rw [h'.1] at e
    cases e
  | .swap :: r, .back :: r', u, v, h', h => by
    obtain ⟨x, y, e, g⟩ := h
    rw [h'.1] at e
    cases e
  | .front :: r, .front :: r', u, v, h, h' => by
    obtain ⟨_, x, y, e, g⟩ := h
    obtain ⟨_, x', y', e', g'⟩ := h'
    rw [e] at e'
    cases e'
    rw [gre_uniq g g']
  | .front :: r, .swap :: r', u, v, h, h' => by
    obtain ⟨_, x, y, e, g⟩ := h
    rw [h'.2.1] at e
    cases e
  | .swap :: r, .front :: r', u, v, h', h => by
    obtain ⟨_, x, y, e, g⟩ := h
    rw [h'.2.1] at e
    cases e
  | .swap :: r, .swap :: r', u, v, h, h' => by rw [gre_uniq h.2.2.2 h'.2.2.2]
where
  gre_swap_same {r : List Nm} (h : Gre (.swap :: r) [97] [98]) : False := by
    obtain ⟨_, _, hh, g⟩ := h
    cases r with
    | nil => exact absurd g.1 (by decide)
    | cons n r =>
      cases n with
      | back =>
        obtain ⟨x, y, e, _⟩ := g
        have e : ledW .back [98] [97] = some (x, y) := e
        rw [led1b] at e; cases e
      | front =>
        obtain ⟨_, x, y, e, _⟩ := g
        have e : ledW .front [98] [97] = some (x, y) := e
        rw [led1f] at e; cases e
      | swap => exact hh rfl
theorem gre_min : ∀ {g r : List Nm} {u v : List Nat}, Wd u → Wd v → Gre g u v → toldW r = (u, v) → g.length ≤ r.length
  | [], r, u, v, _, _, _, _ => by simp
  | .back :: g, r, u, v, hu, hv, h, e => by
    obtain ⟨x, y, k, h⟩ := h
    obtain ⟨_, e1, e2, wx, wy⟩ := led_some hu hv k
    rw [← e1, ← e2] at e
    obtain ⟨r', l, e'⟩ := cancel (n := .back) (by simp) wx wy e
    have := gre_min wx wy h e'
    simp
    omega
  | .front :: g, r, u, v, hu, hv, h, e => by
    obtain ⟨_, x, y, k, h⟩ := h
    obtain ⟨_, e1, e2, wx, wy⟩ := led_some hu hv k
    rw [← e1, ← e2] at e
    obtain ⟨r', l, e'⟩ := cancel (n := .front) (by simp) wx wy e
    have := gre_min wx wy h e'
    simp
    omega
  | .swap :: g, [], u, v, hu, hv, h, e => by
    obtain ⟨rfl, rfl⟩ := Prod.mk.inj e
    exact (gre_uniq.gre_swap_same h).elim
  | .swap :: g, .back :: r, u, v, hu, hv, h, e => by
    obtain ⟨w1, w2, _, _⟩ := told_wd r
    have := led_pl (n := .back) (by simp) w1 w2
    obtain ⟨e1, e2⟩ := Prod.mk.inj e
    rw [show pl .back (toldW r).1 = u from e1, show pl .back (toldW r).2 = v from e2, h.1] at this
    cases this
  | .swap :: g, .front :: r, u, v, hu, hv, h, e => by
    obtain ⟨w1, w2, _, _⟩ := told_wd r
    have := led_pl (n := .front) (by simp) w1 w2
    obtain ⟨e1, e2⟩ := Prod.mk.inj e
    rw [show pl .front (toldW r).1 = u from e1, show pl .front (toldW r).2 = v from e2, h.2.1] at this
    cases this
  | .swap :: g, .swap :: r, u, v, hu, hv, h, e => by
    obtain ⟨w1, w2, _, _⟩ := told_wd r
    obtain ⟨e1, e2⟩ := Prod.mk.inj e
    have e1 : pl .swap (toldW r).1 = u := e1
    have e2 : pl .swap (toldW r).2 = v := e2
    have := gre_min (r := r) (pl_wd u) (pl_wd v) h.2.2.2 (by rw [← e1, ← e2, sw_sw w1, sw_sw w2])
    simp
    omega
theorem gre_tail {n : Nm} {r : List Nm} {u v : List Nat} (hu : Wd u) (hv : Wd v) (h : Gre (n :: r) u v) : Gre r (toldW r).1 (toldW r).2 := by
  have key : ∀ {x y : List Nat}, Wd x → Wd y → Gre r x y → Gre r (toldW r).1 (toldW r).2 := fun wx wy g => by
    rw [gre_told wx wy g]; exact g
  cases n with
  | back =>
    obtain ⟨x, y, k, g⟩ := h
    obtain ⟨_, _, _, wx, wy⟩ := led_some hu hv k
    exact key wx wy g
  | front =>
    obtain ⟨_, x, y, k, g⟩ := h
    obtain ⟨_, _, _, wx, wy⟩ := led_some hu hv k
    exact key wx wy g
  | swap => exact key (pl_wd u) (pl_wd v) h.2.2.2
theorem gre_drop : ∀ (i : Nat) {g : List Nm} {u v : List Nat}, Wd u → Wd v → Gre g u v → Gre (g.drop i) (toldW (g.drop i)).1 (toldW (g.drop i)).2
  | 0, g, u, v, hu, hv, h => by rw [List.drop_zero, gre_told hu hv h]; exact h
  | i + 1, [], u, v, hu, hv, h => by simp [Gre, toldW]
  | i + 1, n :: r, u, v, hu, hv, h => by
    obtain ⟨w1, w2, _, _⟩ := told_wd r
    have := gre_drop i w1 w2 (gre_tail hu hv h)
    simpa using this
theorem gre_noswap {g : List Nm} {u v : List Nat} (hu : Wd u) (hv : Wd v) (h : Gre g u v) (i : Nat) : ¬ (g[i]? = some .swap ∧ g[i + 1]? = some .swap) := by
  rintro ⟨h1, h2⟩
  have hd := gre_drop i hu hv h
  obtain ⟨l1, e1⟩ := List.getElem?_eq_some_iff.mp h1
  obtain ⟨l2, e2⟩ := List.getElem?_eq_some_iff.mp h2
  rw [List.drop_eq_getElem_cons l1, e1, List.drop_eq_getElem_cons l2, e2] at hd
  exact hd.2.2.1 rfl
theorem infB_rev {w : List Nat} : NB w.reverse → NB w := by
  intro h
  rw [nb_iff] at h ⊢
  intro i hi z
  have hl : i + 2 ≤ w.length := by
    have := congrArg List.length z
    simp at this
    omega
  apply h (w.length - (i + 2)) (by simp)
  rw [List.drop_reverse, List.take_reverse]
  rw [show w.length - (w.length - (i + 2)) = i + 2 by omega]
  have e : (w.take (i + 2)).length = i + 2 := by simp; omega
  rw [e, show i + 2 - 2 = i by omega]
  have : (w.take (i + 2)).drop i = (w.drop i).take 2 := by rw [List.drop_take]; congr 1; omega
  rw [this, z]
  rfl
/-- what does not come by back has two b side by side, or b at the end -/
theorem bo_none {w : List Nat} (h : bo w = none) : infB [98, 98] w = true ∨ ∃ r, w = r ++ [98] := by
  unfold bo at h
  rw [Option.map_eq_none_iff] at h
  unfold fo at h
  split at h
  · rename_i z
    rcases z with z | z
    · right
      rcases List.eq_nil_or_concat w with rfl | ⟨r, c, rfl⟩
      · simp at z
      · rw [List.concat_eq_append, List.reverse_append] at z
        have : c = 98 := by simpa using z
        exact ⟨r, by rw [this, List.concat_eq_append]⟩
    · left
      cases e : infB [98, 98] w with
      | true => rfl
      | false =>
        have : NB w.reverse := infB_rev (by rw [List.reverse_reverse]; exact e)
        rw [this] at z
        cases z
  · cases h
theorem gre_front {r : List Nm} {u v : List Nat} (h : Gre (.front :: r) u v) : (infB [98, 98] u = true ∨ ∃ s, u = s ++ [98]) ∨ (infB [98, 98] v = true ∨ ∃ s, v = s ++ [98]) := by
  have h := h.1
  unfold ledW at h
  simp only [ways] at h
  cases e1 : bo u with
  | none => exact .inl (bo_none e1)
  | some x =>
    cases e2 : bo v with
    | none => exact .inr (bo_none e2)
    | some y => rw [e1, e2] at h; cases h
/-! ### all rows of a size, in order -/
def rowsF : Nat → List (List Nm)
  | 0 => [[]]
  | k + 1 => (rowsF k).map (.back :: ·) ++ ((rowsF k).map (.front :: ·) ++ (rowsF k).map (.swap :: ·))
def rowsK : Nat → List (List Nm)
  | 0 => [[]]
  | k + 1 => (rowsK k).flatMap fun r => [r ++ [.back], r ++ [.front], r ++ [.swap]]
theorem flatMap_cons {n : Nm} : ∀ (l : List (List Nm)), (l.map (n :: ·)).flatMap (fun r => [r ++ [Nm.back], r ++ [Nm.front], r ++ [Nm.swap]]) = (l.flatMap fun r => [r ++ [Nm.back], r ++ [Nm.front], r ++ [Nm.swap]]).map (n :: ·)
  | [] => rfl
  | x :: l => by rw [List.map_cons, List.flatMap_cons, List.flatMap_cons, flatMap_cons l, List.map_append]; rfl
theorem rows_eq : ∀ k, rowsK k = rowsF k
  | 0 => rfl
  | 1 => rfl
  | k + 2 => by
    have ih := rows_eq (k + 1)
    have ih0 := rows_eq k
    rw [rowsK, ih]
    rw [rowsF, List.flatMap_append, List.flatMap_append, flatMap_cons, flatMap_cons, flatMap_cons]
    have : (rowsF k).flatMap (fun r => [r ++ [Nm.back], r ++ [Nm.front], r ++ [Nm.swap]]) = rowsF (k + 1) := by
      rw [← ih, ← ih0]; rfl
    rw [this]
    rfl
theorem rowsF_len : ∀ (k : Nat) {r : List Nm}, r ∈ rowsF k → r.length = k
  | 0, r, h => by simp [rowsF] at h; simp [h]
  | k + 1, r, h => by
    rw [rowsF] at h
    simp only [List.mem_append, List.mem_map] at h
    rcases h with ⟨s, hs, rfl⟩ | ⟨s, hs, rfl⟩ | ⟨s, hs, rfl⟩ <;> simp [rowsF_len k hs]
/-- tells a pair -/
def tellsB (u v : List Nat) (r : List Nm) : Bool := decide (toldW r = (u, v))
theorem find_map {n : Nm} {u v x y : List Nat} (h : ∀ r, tellsB u v (n :: r) = tellsB x y r) : ∀ l : List (List Nm), (l.map (n :: ·)).find? (tellsB u v) = (l.find? (tellsB x y)).map (n :: ·)
  | [] => rfl
  | r :: l => by
    rw [List.map_cons, List.find?_cons, List.find?_cons, h r]
    split
    · rfl
    · exact find_map h l
theorem find_map_none {n : Nm} {u v : List Nat} (h : ∀ r, tellsB u v (n :: r) = false) : ∀ l : List (List Nm), (l.map (n :: ·)).find? (tellsB u v) = none
  | [] => rfl
  | r :: l => by rw [List.map_cons, List.find?_cons, h r]; exact find_map_none h l
theorem tells_pl {n : Nm} {x y : List Nat} (wx : Wd x) (wy : Wd y) (r : List Nm) : tellsB (pl n x) (pl n y) (n :: r) = tellsB x y r := by
  unfold tellsB
  rw [Bool.eq_iff_iff, decide_eq_true_iff, decide_eq_true_iff]
  obtain ⟨w1, w2, _, _⟩ := told_wd r
  constructor
  · intro h
    obtain ⟨e1, e2⟩ := Prod.mk.inj h
    rw [← pl_inj w1 wx e1, ← pl_inj w2 wy e2]
  · intro h
    exact told_cons h
theorem tells_none {n : Nm} (hn : n ≠ .swap) {u v : List Nat} (h : ledW n u v = none) (r : List Nm) : tellsB u v (n :: r) = false := by
  unfold tellsB
  rw [decide_eq_false_iff_not]
  intro e
  obtain ⟨w1, w2, _, _⟩ := told_wd r
  have := led_pl hn w1 w2
  obtain ⟨e1, e2⟩ := Prod.mk.inj e
  rw [show pl n (toldW r).1 = u from e1, show pl n (toldW r).2 = v from e2, h] at this
  cases this
theorem gre_find : ∀ {g : List Nm} {u v : List Nat}, Wd u → Wd v → Gre g u v → (rowsF g.length).find? (tellsB u v) = some g
  | [], u, v, _, _, h => by
    obtain ⟨rfl, rfl⟩ := h
    rfl
  | .back :: g, u, v, hu, hv, h => by
    obtain ⟨x, y, k, h⟩ := h
    obtain ⟨_, e1, e2, wx, wy⟩ := led_some hu hv k
    rw [List.length_cons, rowsF, List.find?_append, ← e1, ← e2, find_map (tells_pl wx wy), gre_find wx wy h]
    rfl
  | .front :: g, u, v, hu, hv, h => by
    obtain ⟨k0, x, y, k, h⟩ := h
    obtain ⟨_, e1, e2, wx, wy⟩ := led_some hu hv k
    rw [List.length_cons, rowsF, List.find?_append, find_map_none (tells_none (by simp) k0), Option.none_or, List.find?_append, ← e1, ← e2, find_map (tells_pl wx wy), gre_find wx wy h]
    rfl
  | .swap :: g, u, v, hu, hv, h => by
    obtain ⟨k0, k1, _, h⟩ := h
    rw [List.length_cons, rowsF, List.find?_append, find_map_none (tells_none (by simp) k0), Option.none_or, List.find?_append, find_map_none (tells_none (by simp) k1), Option.none_or]
    have := find_map (n := .swap) (u := u) (v := v) (x := pl .swap u) (y := pl .swap v) (fun r => by
      have := tells_pl (n := .swap) (x := pl .swap u) (y := pl .swap v) (pl_wd u) (pl_wd v) r
      rw [sw_sw hu, sw_sw hv] at this
      exact this) (rowsF g.length)
    rw [this, gre_find (pl_wd u) (pl_wd v) h]
    rfl
theorem gre_none {g : List Nm} {u v : List Nat} (hu : Wd u) (hv : Wd v) (h : Gre g u v) {k : Nat} (hk : k < g.length) {r : List Nm} (hr : r ∈ rowsF k) : tellsB u v r = false := by
  unfold tellsB
  rw [decide_eq_false_iff_not]
  intro e
  have := gre_min hu hv h e
  rw [rowsF_len k hr] at this
  omega
/-- a check -/
def greB : List Nm → List Nat → List Nat → Bool
  | [], u, v => decide (u = [97] ∧ v = [98])
  | .back :: r, u, v => match ledW .back u v with
    | some (x, y) => greB r x y
    | none => false
  | .front :: r, u, v => decide (ledW .back u v = none) && match ledW .front u v with
    | some (x, y) => greB r x y
    | none => false
  | .swap :: r, u, v => decide (ledW .back u v = none) && decide (ledW .front u v = none) && decide (r.head? ≠ some .swap) && greB r (pl .swap u) (pl .swap v)
theorem greB_ok : ∀ {g : List Nm} {u v : List Nat}, greB g u v = true → Gre g u v
  | [], u, v, h => show u = [97] ∧ v = [98] from of_decide_eq_true h
  | .back :: r, u, v, h => by
    unfold greB at h
    split at h
    · rename_i x y e
      exact ⟨x, y, e, greB_ok h⟩
    · cases h
  | .front :: r, u, v, h => by
    unfold greB at h
    rw [Bool.and_eq_true] at h
    obtain ⟨h1, h⟩ := h
    split at h
    · rename_i x y e
      exact ⟨of_decide_eq_true h1, x, y, e, greB_ok h⟩
    · cases h
  | .swap :: r, u, v, h => by
    unfold greB at h
    rw [Bool.and_eq_true, Bool.and_eq_true, Bool.and_eq_true] at h
    exact ⟨of_decide_eq_true h.1.1.1, of_decide_eq_true h.1.1.2, of_decide_eq_true h.1.2, greB_ok h.2⟩
end EK

set_option Elab.async false
set_option linter.all false
set_option maxRecDepth 100000
set_option maxHeartbeats 4000000
namespace EK
open PySem L2 PySem.Spec PyProof.Rows
/-! ### plain.py: is_name, need_row, told_in, told_by, row_of -/
abbrev rowT (ns : List Nm) : D := .tup (ns.map nmD)
theorem told_drop : ∀ (i : Nat) (ns : List Nm), (toldW (ns.drop i)).1.length ≤ (toldW ns).1.length ∧ (toldW (ns.drop i)).2.length ≤ (toldW ns).2.length
  | 0, ns => by simp
  | i + 1, [] => by simp
  | i + 1, n :: r => by
    have ih := told_drop i r
    have p1 := imgW_pos (u := n.a) (v := n.b) (by cases n <;> decide) (by cases n <;> decide) (toldW r).1
    have p2 := imgW_pos (u := n.a) (v := n.b) (by cases n <;> decide) (by cases n <;> decide) (toldW r).2
    rw [List.drop_succ_cons]
    simp only [toldW]
    omega
theorem rowS_gre {g : List Nm} {u v : List Nat} {o : Option (List Nm)} (hu : Wd u) (hv : Wd v) (h : Gre g u v) (ho : RowS u v o) : o = some g := by
  cases o with
  | none => exact absurd (gre_told hu hv h) (ho g)
  | some ns => rw [gre_uniq ho.1 h]
section
variable {Φ Φf : Str → Option Fsem} {G : Str → Option D} {fuel : Nat}
def plainD : D := .tup [nmD .back, nmD .front, nmD .swap]
def bIsName : List CS := [.ret (.and (.isi (.var 0) "str") (.cmp .In (.var 0) (.glob "PLAIN")))]
def InmOk (F : Fsem) : Prop := ∀ (n : Nm) (S : Sto), F [nmD n] S = .ok (.bl true) S
theorem inmOk (g : G "PLAIN" = some plainD) : InmOk (fsem Φ Φf G fuel 1 1 bIsName) := by
  intro n S
  have i1 : isiD "str" (nmD n) = some (.bl true) := rfl
  have i2 : cmpD .In (nmD n) plainD = some (.bl true) := by cases n <;> rfl
  have v1 : vw S (nmD n) = nmD n := rfl
  have v2 : vw S plainD = plainD := rfl
  simp [bIsName, i1, i2, v1, v2, g]
def lNeedRow : List CS := [.ite (.not (.call "is_name" [.var 2])) [.never] []]
def bNeedRow : List CS := [.ite (.or (.not (.isi (.var 0) "tuple")) (.cmp .Gt (.blt .len [.var 0]) (.glob "MOST_NAMES"))) [.never] [],
  .loop (.many [1, 2]) .enm [.var 0] lNeedRow,
  .ret (.var 0)]
def NroOk (F : Fsem) : Prop := ∀ (ns : List Nm) (S : Sto), ns.length ≤ 400 → F [rowT ns] S = .ok (rowT ns) S
theorem enum_map : ∀ (ns : List Nm) (k i : Nat) {x : D}, (enumFrom k (ns.map nmD))[i]? = some x → ∃ n, ns[i]? = some n ∧ x = .tup [.int ((k + i : Nat) : Int), nmD n]
  | [], k, i, x, h => by simp [enumFrom] at h
  | c :: w, k, 0, x, h => by
    simp [enumFrom] at h
    exact ⟨c, rfl, h.symm⟩
  | c :: w, k, i + 1, x, h => by
    rw [List.map_cons, enumFrom, List.getElem?_cons_succ] at h
    obtain ⟨d, e1, e2⟩ := enum_map w (k + 1) i h
    refine ⟨d, by simpa using e1, ?_⟩
    rw [e2, show k + 1 + i = k + (i + 1) by omega]
theorem lenT {ns : List Nm} : lenD [rowT ns] = some (.int ns.length) := by
  show some (D.int ((ns.map nmD).length : Nat)) = _
  rw [List.length_map]
theorem nroOk {F : Fsem} (g : G "MOST_NAMES" = some (.int 400)) (e : Φ "is_name" = some F) (h : InmOk F) : NroOk (fsem Φ Φf G fuel 1 3 bNeedRow) := by
  intro ns S hn
  have i1 : isiD "tuple" (rowT ns) = some (.bl true) := rfl
  have l1 := lenT (ns := ns)
  have it : itD .enm [rowT ns] = some (enumFrom 0 (ns.map nmD)) := rfl
  have c : ¬ ((400 : Int) < (ns.length : Int)) := by omega
  have key : ∀ n0 A, ∃ x y, loopN (exSs Φ Φf G fuel n0 lNeedRow) (.many [1, 2]) (enumFrom 0 (ns.map nmD)) [A, none, none] S = .next [A, x, y] S := by
    intro n0 A
    refine loop0 (I := fun i Γ S' => S' = S ∧ ∃ x y, Γ = [A, x, y]) (post := fun q => ∃ x y, q = .next [A, x, y] S) ⟨rfl, none, none, rfl⟩ ?_ ?_
    · rintro i x Γ S' hx ⟨rfl, y, z, rfl⟩
      obtain ⟨n, _, rfl⟩ := enum_map ns 0 i hx
      have a := h n S'
      refine ⟨_, rfl, .inl ⟨[A, some (.int ((0 + i : Nat) : Int)), some (nmD n)], S', ?_, rfl, _, _, rfl⟩⟩
      simp [lNeedRow, e, a]
    · rintro Γ S' ⟨rfl, x, y, rfl⟩
      exact ⟨x, y, rfl⟩
  obtain ⟨x, y, key⟩ := key S.length (some (rowT ns))
  simp only [rowT] at *
  generalize ns.map nmD = ds at *
  simp [bNeedRow, i1, l1, g, c, it, key]
def lToldIn : List CS := [.set (.one 1) (.call "behind_in" [.idx (.glob "MEANT") (.var 2), .var 1])]
def bToldIn : List CS := [.set (.one 1) (.glob "SAME"),
  .loop (.one 2) .seq [.rev (.var 0)] lToldIn,
  .ret (.var 1)]
def TiOk (F : Fsem) : Prop := ∀ (ns : List Nm) (S : Sto), (toldW ns).1.length ≤ 60 → (toldW ns).2.length ≤ 60 → F [rowT ns] S = .ok (pd (toldW ns).1 (toldW ns).2) S
theorem told_rp {ns : List Nm} (h1 : (toldW ns).1.length ≤ 60) (h2 : (toldW ns).2.length ≤ 60) : Rp (toldW ns).1 (toldW ns).2 := by
  obtain ⟨w1, w2, l1, l2⟩ := told_wd ns
  exact ⟨w1, w2, l1, h1, l2, h2⟩
theorem tiOk {Fb : Fsem} (g : G "SAME" = some (pd [97] [98])) (gm : G "MEANT" = some (.fn "MEANT")) (eb : Φ "behind_in" = some Fb) (hb : BiOk Fb) : TiOk (fsem Φ Φf G fuel 1 3 bToldIn) := by
  intro ns S h1 h2
  have key : ∀ n0 : Nat, ∃ x, loopN (exSs Φ Φf G fuel n0 lToldIn) (.one 2) ((ns.map nmD).reverse) [some (rowT ns), some (pd [97] [98]), none] S = .next [some (rowT ns), some (pd (toldW ns).1 (toldW ns).2), x] S := by
    intro n0
    refine loop0 (I := fun i Γ S' => S' = S ∧ ∃ x, Γ = [some (rowT ns), some (pd (toldW (ns.drop (ns.length - i))).1 (toldW (ns.drop (ns.length - i))).2), x]) (post := fun q => ∃ x, q = .next [some (rowT ns), some (pd (toldW ns).1 (toldW ns).2), x] S) ⟨rfl, none, by simp [toldW]⟩ ?_ ?_
    · rintro i x Γ S' hx ⟨rfl, y, rfl⟩
      have hi' := (List.getElem?_eq_some_iff.mp hx).1
      rw [List.length_reverse, List.length_map] at hi'
      rw [List.getElem?_reverse (by rw [List.length_map]; exact hi'), List.length_map, List.getElem?_map] at hx
      obtain ⟨m, em', rfl⟩ : ∃ m, ns[ns.length - 1 - i]? = some m ∧ x = nmD m := by
        cases q : ns[ns.length - 1 - i]? with
        | none => rw [q] at hx; cases hx
        | some m => rw [q] at hx; cases hx; exact ⟨m, rfl, rfl⟩
      have ed : ns.drop (ns.length - (i + 1)) = m :: ns.drop (ns.length - i) := by
        have e1 : ns.length - (i + 1) = ns.length - 1 - i := by omega
        have e2 : ns.length - i = ns.length - 1 - i + 1 := by omega
        rw [e1, e2]
        have hlt := (List.getElem?_eq_some_iff.mp em').1
        rw [List.drop_eq_getElem_cons hlt]
        congr 1
        exact (List.getElem?_eq_some_iff.mp em').2
      have d0 := told_drop (ns.length - i) ns
      have d1 := told_drop (ns.length - (i + 1)) ns
      rw [ed] at d1
      have rp0 := told_rp (ns := ns.drop (ns.length - i)) (by omega) (by omega)
      have b := hb m.a m.b _ _ S' m.rp rp0 (by simp only [toldW] at d1; omega) (by simp only [toldW] at d1; omega)
      have mi : idxD (.fn "MEANT") (nmD m) = some (pd m.a m.b) := by cases m <;> rfl
      have vm : vw S' (nmD m) = nmD m := rfl
      refine ⟨_, rfl, .inl ⟨_, S', ?_, rfl, some (nmD m), rfl⟩⟩
      rw [ed]
      simp [lToldIn, eb, gm, mi, vm, b, toldW]
    · rintro Γ S' ⟨rfl, x, rfl⟩
      rw [List.length_reverse, List.length_map, Nat.sub_self, List.drop_zero]
      exact ⟨x, rfl⟩
  obtain ⟨x, key⟩ := key S.length
  have r : revD (rowT ns) = some (.tup (ns.map nmD).reverse) := rfl
  simp only [rowT] at *
  simp [bToldIn, g, r, key]
def bToldBy : List CS := [.ret (.call "told_in" [.call "need_row" [.var 0]])]
def TbOk (F : Fsem) : Prop := ∀ (ns : List Nm) (S : Sto), ns.length ≤ 400 → (toldW ns).1.length ≤ 60 → (toldW ns).2.length ≤ 60 → F [rowT ns] S = .ok (pd (toldW ns).1 (toldW ns).2) S
theorem tbOk {Ft Fn : Fsem} (et : Φ "told_in" = some Ft) (ht : TiOk Ft) (en : Φ "need_row" = some Fn) (hn : NroOk Fn) : TbOk (fsem Φ Φf G fuel 1 1 bToldBy) := by
  intro ns S h0 h1 h2
  have a := hn ns S h0
  have b := ht ns S h1 h2
  generalize rowT ns = R at *
  simp [bToldBy, en, et, a, b]
def bRowOf : List CS := [.ret (.call "row_in" [.call "need_replacement" [.var 0]])]
theorem roOk {Fr Fn : Fsem} (er : Φ "row_in" = some Fr) (hr : RiOk Fr) (en : Φ "need_replacement" = some Fn) (hn : NrOk Fn) : RiOk (fsem Φ Φf G fuel 1 1 bRowOf) := by
  intro u v S r
  have a := hn u v S r
  obtain ⟨o, e, ho⟩ := hr u v S r
  refine ⟨o, ?_, ho⟩
  cases o with
  | none =>
    have e : Fr [pd u v] S = .ok .non S := e
    simp [bRowOf, en, er, a, e, rowD]
  | some ns =>
    have e : Fr [pd u v] S = .ok (.tup (ns.map nmD)) S := e
    simp [bRowOf, en, er, a, e, rowD]
end
end EK

set_option Elab.async false
set_option linter.all false
set_option maxRecDepth 100000
set_option maxHeartbeats 4000000
namespace EK
open PySem L2 PySem.Spec PyProof.Rows
section
variable {Φ Φf : Str → Option Fsem} {G : Str → Option D} {fuel : Nat}
/-! ### _law_row_right -/
def qRR : CE := .or (.cmp .In (.con (.str [98, 98])) (.var 8)) (.cmp .Eq (.idx (.var 8) (.neg (.con (.int 1)))) (.con (.str [98])))
def cRR : CE := .lc (.var 8) (.one 8) .seq [.var 5] qRR [("_law_one", 8)]
def lRR : List CS := [.set (.one 5) (.call "_law_told" [.sl (.var 2) (.var 3) (.con .non)]),
  .ite (.and (.cmp .Eq (.var 4) (.con (.str [102, 114, 111, 110, 116]))) (.cmp .Eq cRR (.lst []))) [.ret (.con (.bl false))] []]
def qRS : CE := .and (.cmp .Eq (.var 6) (.con (.str [115, 119, 97, 112]))) (.cmp .Eq (.var 7) (.con (.str [115, 119, 97, 112])))
def cRS : CE := .lc (.con (.int 1)) (.many [6, 7]) .zip [.var 2, .sl (.var 2) (.con (.int 1)) (.con .non)] qRS [("_law_near", 6), ("_law_far", 7)]
def bRowRight : List CS := [.set (.one 2) (.call "row_of" [.var 0]),
  .ite (.or (.cmp .NotEq (.call "row_of" [.var 0]) (.var 2)) (.or (.cmp .Is (.var 2) (.con .non)) (.or (.cmp .NotEq (.call "_law_told" [.var 2]) (.var 0)) (.cmp .Gt (.blt .len [.var 2]) (.blt .len [.var 1]))))) [.ret (.con (.bl false))] [],
  .loop (.many [3, 4]) .enm [.var 2] lRR,
  .ret (.cmp .Eq cRS (.lst []))]
/-- two b side by side, or b at the end -/
def qB (x : List Nat) : Bool := infB [98, 98] x || decide (x.getLast? = some 98)
theorem idx_last {r : List Nat} {c : Nat} (h : (r ++ [c]).length ≤ 1000) : idxD (.str (r ++ [c])) (.int (-1)) = some (.str [c]) := by
  show (if (r ++ [c]).length ≤ szL then (atI (r ++ [c]) (-1)).map fun c => D.str [c] else none) = _
  rw [if_pos (by show _ ≤ 16777216; omega), at_neg1]
  rfl
theorem q_ev {a0 a1 a2 a3 a4 a5 a6 a7 : Option D} {x : List Nat} {S : Sto} (h1 : 1 ≤ x.length) (h2 : x.length ≤ 1000) : ev Φ G qRR [a0, a1, a2, a3, a4, a5, a6, a7, some (.str x)] S = .ok (.bl (qB x)) S := by
  have hin : cmpD .In (.str [98, 98]) (.str x) = some (.bl (infB [98, 98] x)) := rfl
  rcases List.eq_nil_or_concat x with rfl | ⟨r, c, rfl⟩
  · simp at h1
  · rw [List.concat_eq_append] at *
    have il := idx_last h2
    unfold qB
    rw [List.getLast?_append]
    generalize r ++ [c] = w at *
    cases e : infB [98, 98] w with
    | true =>
      rw [e] at hin
      simp [qRR, hin]
    | false =>
      rw [e] at hin
      simp [qRR, hin, il]
theorem c_ev {a0 a1 a2 a3 a4 a6 a7 a8 : Option D} {x y : List Nat} {S : Sto} (h1 : 1 ≤ x.length) (h2 : x.length ≤ 1000) (h3 : 1 ≤ y.length) (h4 : y.length ≤ 1000) : ev Φ G cRR [a0, a1, a2, a3, a4, some (pd x y), a6, a7, a8] S = .ok (.lst (([x, y].filter qB).map .str)) S := by
  have l : ∀ cond elt, cond = ev Φ G qRR → elt = ev Φ G (.var 8) → lcLoop cond elt (.one 8) [a0, a1, a2, a3, a4, some (pd x y), a6, a7, none] [.str x, .str y] [] S = .ok (.lst (([x, y].filter qB).map .str)) S := by
    rintro cond elt rfl rfl
    have q1 := q_ev (Φ := Φ) (G := G) (a0 := a0) (a1 := a1) (a2 := a2) (a3 := a3) (a4 := a4) (a5 := some (pd x y)) (a6 := a6) (a7 := a7) (S := S) h1 h2
    have q2 := q_ev (Φ := Φ) (G := G) (a0 := a0) (a1 := a1) (a2 := a2) (a3 := a3) (a4 := a4) (a5 := some (pd x y)) (a6 := a6) (a7 := a7) (S := S) h3 h4
    cases e1 : qB x <;> cases e2 : qB y <;> simp [lcLoop, q1, q2, e1, e2]
  have l := l _ _ rfl rfl
  generalize (([x, y].filter qB).map D.str) = fl at l ⊢
  simp only [cRR, ev, evs]
  simp at l
  simp [l, szL]
theorem body_rr {Ft : Fsem} (et : Φ "_law_told" = some Ft) (ht : ToOk Ft) {g : List Nm} {u v : List Nat} (hu : Wd u) (hv : Wd v) (hg : Gre g u v) (hl : g.length ≤ 18) (b1 : (toldW g).1.length ≤ 60) (b2 : (toldW g).2.length ≤ 60) {i : Nat} {n : Nm} (hi : g[i]? = some n) {a0 a1 a5 a6 a7 a8 : Option D} {S : Sto} {n0 : Nat} :
    ∃ y5, exSs Φ Φf G fuel n0 lRR [a0, a1, some (rowT g), some (.int (i : Nat)), some (nmD n), a5, a6, a7, a8] S = .next [a0, a1, some (rowT g), some (.int (i : Nat)), some (nmD n), y5, a6, a7, a8] S := by
  have hlt := (List.getElem?_eq_some_iff.mp hi).1
  have sl : slD (rowT g) (some (i : Int)) none = some (rowT (g.drop i)) := by
    show some (D.tup (cutL (g.map nmD) (some (i : Int)) none)) = _
    rw [cut_fromA]
    show some (D.tup ((g.map nmD).drop i)) = some (D.tup ((g.drop i).map nmD))
    rw [List.map_drop]
  have t := ht (g.drop i) S (by rw [List.length_drop]; omega)
  have td := told_drop i g
  obtain ⟨w1, w2, l1, l2⟩ := told_wd (g.drop i)
  have gd := gre_drop i hu hv hg
  refine ⟨some (pd (toldW (g.drop i)).1 (toldW (g.drop i)).2), ?_⟩
  have cc := c_ev (Φ := Φ) (G := G) (a0 := a0) (a1 := a1) (a2 := some (rowT g)) (a3 := some (.int (i : Nat))) (a4 := some (nmD n)) (a6 := a6) (a7 := a7) (a8 := a8) (x := (toldW (g.drop i)).1) (y := (toldW (g.drop i)).2) (S := S) l1 (by omega) l2 (by omega)
  have t : Ft [rowT (g.drop i)] S = _ := t
  by_cases hn : n = .front
  · subst hn
    rw [List.drop_eq_getElem_cons hlt, (List.getElem?_eq_some_iff.mp hi).2] at gd
    have gf := gre_front gd
    rw [← (List.getElem?_eq_some_iff.mp hi).2, ← List.drop_eq_getElem_cons hlt] at gf
    have ne : cmpD .Eq (.lst (([(toldW (g.drop i)).1, (toldW (g.drop i)).2].filter qB).map .str)) (.lst []) = some (.bl false) := by
      have hq : qB (toldW (g.drop i)).1 = true ∨ qB (toldW (g.drop i)).2 = true := by
        rcases gf with (z | ⟨s, z⟩) | (z | ⟨s, z⟩)
        · left; unfold qB; rw [z]; rfl
        · left; unfold qB; rw [z]; simp
        · right; unfold qB; rw [z]; rfl
        · right; unfold qB; rw [z]; simp
      have o1 := okD_str (n := 0) w1
      have o2 := okD_str (n := 0) w2
      generalize (toldW (g.drop i)).1 = X at *
      generalize (toldW (g.drop i)).2 = Y at *
      cases e1 : qB X <;> cases e2 : qB Y
      · rw [e1, e2] at hq; rcases hq with z | z <;> cases z
      · simp only [List.filter, e1, e2]
        exact ceq_no (n := 1) (m := 0) (by show (okD 0 (.str Y) && true) = true; rw [o2]; rfl) rfl (by omega) (by omega) rfl rfl (by intro z; injection z with z; cases z)
      · simp only [List.filter, e1, e2]
        exact ceq_no (n := 1) (m := 0) (by show (okD 0 (.str X) && true) = true; rw [o1]; rfl) rfl (by omega) (by omega) rfl rfl (by intro z; injection z with z; cases z)
      · simp only [List.filter, e1, e2]
        exact ceq_no (n := 1) (m := 0) (by show (okD 0 (.str X) && (okD 0 (.str Y) && true)) = true; rw [o1, o2]; rfl) rfl (by omega) (by omega) rfl rfl (by intro z; injection z with z; cases z)
    have e0 : cmpD .Eq (nmD .front) (.str [102, 114, 111, 110, 116]) = some (.bl true) := rfl
    have v0 : vw S (nmD .front) = nmD .front := rfl
    generalize (([(toldW (g.drop i)).1, (toldW (g.drop i)).2].filter qB).map D.str) = fl at *
    generalize rowT (g.drop i) = RT at *
    simp only [rowT] at *
    simp [lRR, et, sl, t, e0, v0, cc, ne, szL]
  · have e0 : cmpD .Eq (nmD n) (.str [102, 114, 111, 110, 116]) = some (.bl false) := by
      cases n
      · rfl
      · exact absurd rfl hn
      · rfl
    have v0 : vw S (nmD n) = nmD n := rfl
    generalize rowT (g.drop i) = RT at *
    simp only [rowT] at *
    simp [lRR, et, sl, t, e0, v0, szL]
theorem pairsG : ∀ (xs ys : List D) (i : Nat) {z : D}, (pairs xs ys)[i]? = some z → ∃ x y, xs[i]? = some x ∧ ys[i]? = some y ∧ z = .tup [x, y]
  | [], _, i, z, h => by simp [pairs] at h
  | _ :: _, [], i, z, h => by simp [pairs] at h
  | x :: xs, y :: ys, 0, z, h => by
    simp [pairs] at h
    exact ⟨x, y, rfl, rfl, h.symm⟩
  | x :: xs, y :: ys, i + 1, z, h => by
    simp [pairs] at h
    obtain ⟨a, b, e1, e2, e3⟩ := pairsG xs ys i h
    exact ⟨a, b, by simpa using e1, by simpa using e2, e3⟩
theorem pairsL : ∀ (xs ys : List D), (pairs xs ys).length ≤ xs.length
  | [], _ => by simp [pairs]
  | _ :: _, [] => by simp [pairs]
  | x :: xs, y :: ys => by simp [pairs, pairsL xs ys]
theorem zip_ev {g : List Nm} {u v : List Nat} (hu : Wd u) (hv : Wd v) (hg : Gre g u v) (hl : g.length ≤ 300) {a0 a1 a3 a4 a5 a6 a7 a8 : Option D} {S : Sto} : ev Φ G cRS [a0, a1, some (rowT g), a3, a4, a5, a6, a7, a8] S = .ok (.lst []) S := by
  have sl : slD (rowT g) (some 1) none = some (.tup ((g.map nmD).drop 1)) := by
    show some (D.tup (cutL (g.map nmD) (some ((1 : Nat) : Int)) none)) = _
    rw [cut_fromA]
  have it : itD .zip [rowT g, .tup ((g.map nmD).drop 1)] = some (pairs (g.map nmD) ((g.map nmD).drop 1)) := rfl
  have pl := pairsL (g.map nmD) ((g.map nmD).drop 1)
  rw [List.length_map] at pl
  have l : ∀ cond elt, cond = ev Φ G qRS → lcLoop cond elt (.many [6, 7]) [a0, a1, some (rowT g), a3, a4, a5, none, none, a8] (pairs (g.map nmD) ((g.map nmD).drop 1)) [] S = .ok (.lst []) S := by
    rintro cond elt rfl
    have := lc_filter (cond := ev Φ G qRS) (elt := elt) (tg := .many [6, 7]) (Γ := [a0, a1, some (rowT g), a3, a4, a5, none, none, a8]) (S := S) (p := fun _ => false) (f := id) (xs := pairs (g.map nmD) ((g.map nmD).drop 1)) (acc := []) ?_
    · have hf : ∀ l : List D, l.filter (fun _ => false) = [] := by
        intro l
        induction l with
        | nil => rfl
        | cons a l ih => simpa [List.filter] using ih
      rw [hf] at this
      exact this
    · intro z hz
      obtain ⟨i, hi⟩ := List.mem_iff_getElem?.mp hz
      obtain ⟨x, y, e1, e2, rfl⟩ := pairsG _ _ i hi
      rw [List.getElem?_drop, List.getElem?_map] at e2
      rw [List.getElem?_map] at e1
      rw [Nat.add_comm] at e2
      have ns := gre_noswap hu hv hg i
      cases q1 : g[i]? with
      | none => rw [q1] at e1; cases e1
      | some n =>
        cases q2 : g[i + 1]? with
        | none => rw [q2] at e2; cases e2
        | some m =>
          rw [q1] at e1 ns
          rw [q2] at e2 ns
          cases e1
          cases e2
          refine ⟨_, rfl, ?_, fun z => by cases z⟩
          cases n with
          | swap =>
            cases m with
            | swap => exact absurd ⟨rfl, rfl⟩ ns
            | back =>
              have c1 : cmpD .Eq (nmD .swap) (.str [115, 119, 97, 112]) = some (.bl true) := rfl
              have c2 : cmpD .Eq (nmD .back) (.str [115, 119, 97, 112]) = some (.bl false) := rfl
              have v1 : ∀ n, vw S (nmD n) = nmD n := fun _ => rfl
              simp [qRS, c1, c2, v1]
            | front =>
              have c1 : cmpD .Eq (nmD .swap) (.str [115, 119, 97, 112]) = some (.bl true) := rfl
              have c2 : cmpD .Eq (nmD .front) (.str [115, 119, 97, 112]) = some (.bl false) := rfl
              have v1 : ∀ n, vw S (nmD n) = nmD n := fun _ => rfl
              simp [qRS, c1, c2, v1]
          | back =>
            have c1 : cmpD .Eq (nmD .back) (.str [115, 119, 97, 112]) = some (.bl false) := rfl
            have v1 : ∀ n, vw S (nmD n) = nmD n := fun _ => rfl
            simp [qRS, c1, v1]
          | front =>
            have c1 : cmpD .Eq (nmD .front) (.str [115, 119, 97, 112]) = some (.bl false) := rfl
            have v1 : ∀ n, vw S (nmD n) = nmD n := fun _ => rfl
            simp [qRS, c1, v1]
  have l := l _ (fun Γ S => ev Φ G (.con (.int 1)) Γ S) rfl
  generalize (g.map nmD).drop 1 = tl at sl it l pl
  simp only [rowT] at *
  simp only [cRS, ev, evs]
  simp at l
  simp [sl, it, l, szL]
  omega
def RrOk (F : Fsem) : Prop := ∀ (ns : List Nm) (S : Sto), ns.length ≤ 12 → (toldW ns).1.length ≤ 60 → (toldW ns).2.length ≤ 60 → F [pd (toldW ns).1 (toldW ns).2, rowT ns] S = .ok (.bl true) S
theorem okD_nm (n : Nm) (k : Nat) : okD k (nmD n) = true := by cases n <;> cases k <;> rfl
theorem okA_nm (k : Nat) : ∀ ns : List Nm, okA k (ns.map nmD) = true
  | [] => rfl
  | n :: ns => by rw [List.map_cons, okA, okD_nm, okA_nm k ns]; rfl
theorem okD_row (ns : List Nm) (k : Nat) : okD (k + 1) (rowT ns) = true := by
  show okA k (ns.map nmD) = true
  exact okA_nm k ns
theorem noB_row (ns : List Nm) : noB (rowT ns) = true := by
  show noBA (ns.map nmD) = true
  induction ns with
  | nil => rfl
  | cons n ns ih => rw [List.map_cons, noBA, ih]; rfl
theorem rrOk {Fr Ft : Fsem} (er : Φ "row_of" = some Fr) (hr : RiOk Fr) (et : Φ "_law_told" = some Ft) (ht : ToOk Ft) : RrOk (fsem Φ Φf G fuel 2 9 bRowRight) := by
  intro ns S hn h1 h2
  have rp := told_rp h1 h2
  obtain ⟨o, e, ho⟩ := hr _ _ S rp
  cases o with
  | none => exact absurd rfl (ho ns)
  | some g =>
    have hg := ho.1
    have tg := gre_told rp.wu rp.wv hg
    have lg := gre_min rp.wu rp.wv hg (r := ns) rfl
    have t := ht g S (by omega)
    rw [tg] at t
    have e : Fr [pd (toldW ns).1 (toldW ns).2] S = .ok (rowT g) S := e
    have t : Ft [rowT g] S = .ok (pd (toldW ns).1 (toldW ns).2) S := t
    have n1 := cne_ok (okD_row g 0) (by omega)
    have n2 := cne_ok (okD_pd (n := 0) rp.wu rp.wv) (by omega)
    have is0 : cmpD .Is (rowT g) .non = some (.bl false) := rfl
    have L1 := lenT (ns := g)
    have L2 := lenT (ns := ns)
    have c : ¬ ((ns.length : Int) < (g.length : Int)) := by omega
    have it : itD .enm [rowT g] = some (enumFrom 0 (g.map nmD)) := rfl
    have lp : ∀ A B : Option D, ∃ x3 x4 x5, loopN (exSs Φ Φf G fuel S.length lRR) (.many [3, 4]) (enumFrom 0 (g.map nmD)) [A, B, some (rowT g), none, none, none, none, none, none] S = .next [A, B, some (rowT g), x3, x4, x5, none, none, none] S := by
      intro A B
      refine loop0 (I := fun i Γ S' => S' = S ∧ ∃ x3 x4 x5, Γ = [A, B, some (rowT g), x3, x4, x5, none, none, none]) (post := fun q => ∃ x3 x4 x5, q = .next [A, B, some (rowT g), x3, x4, x5, none, none, none] S) ⟨rfl, none, none, none, rfl⟩ ?_ ?_
      · rintro i x Γ S' hx ⟨rfl, x3, x4, x5, rfl⟩
        obtain ⟨n, hi, rfl⟩ := enum_map g 0 i hx
        rw [Nat.zero_add]
        obtain ⟨y5, eb⟩ := body_rr (Φ := Φ) (Φf := Φf) (G := G) (fuel := fuel) (n0 := S'.length) (a0 := A) (a1 := B) (a5 := x5) (a6 := none) (a7 := none) (a8 := none) (S := S') et ht rp.wu rp.wv hg (by omega) (by rw [tg]; exact h1) (by rw [tg]; exact h2) hi
        exact ⟨_, rfl, .inl ⟨_, S', eb, rfl, _, _, y5, rfl⟩⟩
      · rintro Γ S' ⟨rfl, x3, x4, x5, rfl⟩
        exact ⟨x3, x4, x5, rfl⟩
    obtain ⟨x3, x4, x5, lp⟩ := lp (some (pd (toldW ns).1 (toldW ns).2)) (some (rowT ns))
    have zz := zip_ev (Φ := Φ) (G := G) (a0 := some (pd (toldW ns).1 (toldW ns).2)) (a1 := some (rowT ns)) (a3 := x3) (a4 := x4) (a5 := x5) (a6 := none) (a7 := none) (a8 := none) (S := S) rp.wu rp.wv hg (by omega)
    have q0 : cmpD .Eq (.lst []) (.lst []) = some (.bl true) := rfl
    generalize (toldW ns).1 = X at *
    generalize (toldW ns).2 = Y at *
    simp only [rowT] at *
    generalize g.map nmD = gd at *
    generalize ns.map nmD = nd at *
    simp [bRowRight, er, e, n1, is0, et, t, n2, L1, L2, c, it, lp, zz, q0, szL]
end
end EK

set_option Elab.async false
set_option linter.all false
set_option maxRecDepth 100000
set_option maxHeartbeats 4000000
namespace EK
open PySem L2 PySem.Spec PyProof.Rows
section
variable {Φ Φf : Str → Option Fsem} {G : Str → Option D} {fuel : Nat}
/-! ### _law_first_row -/
def lFRa : List CS := [.ite (.cmp .Eq (.call "_law_told" [.var 3]) (.var 0)) [.ret (.lst [.var 3])] []]
def eFR : CE := .bin .Add (.var 3) (.tup [.var 5])
def cFR : CE := .lc eFR (.one 5) .seq [.tup [.con (.str [98, 97, 99, 107]), .con (.str [102, 114, 111, 110, 116]), .con (.str [115, 119, 97, 112])]] (.con (.bl true)) [("_law_name", 5)]
def lFRb : List CS := [.set (.one 4) (.bin .Add (.var 4) cFR)]
def lFR : List CS := [.loop (.one 3) .seq [.var 1] lFRa,
  .set (.one 4) (.lst []),
  .loop (.one 3) .seq [.var 1] lFRb,
  .set (.one 1) (.var 4)]
def bFirstRow : List CS := [.set (.one 1) (.lst [.tup []]),
  .loop (.one 2) .rng [.con (.int 6)] lFR,
  .ret (.lst [])]
theorem loopA {Ft : Fsem} (et : Φ "_law_told" = some Ft) (ht : ToOk Ft) {u v : List Nat} (hu : Wd u) (hv : Wd v) {n0 : Nat} {S : Sto} {x1 x2 x4 x5 : Option D} : ∀ (L : List (List Nm)) (x3 : Option D), (∀ r ∈ L, r.length ≤ 18) →
    (∃ r, L.find? (tellsB u v) = some r ∧ loopN (exSs Φ Φf G fuel n0 lFRa) (.one 3) (L.map rowT) [some (pd u v), x1, x2, x3, x4, x5] S = .ret (.lst [rowT r]) S false) ∨
    (∃ y3, L.find? (tellsB u v) = none ∧ loopN (exSs Φ Φf G fuel n0 lFRa) (.one 3) (L.map rowT) [some (pd u v), x1, x2, x3, x4, x5] S = .next [some (pd u v), x1, x2, y3, x4, x5] S)
  | [], x3, _ => .inr ⟨x3, rfl, rfl⟩
  | r :: L, x3, hL => by
    have t := ht r S (hL r (List.mem_cons_self ..))
    obtain ⟨w1, w2, _, _⟩ := told_wd r
    have t : Ft [rowT r] S = _ := t
    have sg : ([some (pd u v), x1, x2, x3, x4, x5] : Gam).set 3 (some (rowT r)) = [some (pd u v), x1, x2, some (rowT r), x4, x5] := rfl
    by_cases hr : toldW r = (u, v)
    · left
      refine ⟨r, ?_, ?_⟩
      · rw [List.find?_cons, show tellsB u v r = true from decide_eq_true hr]
      · rw [hr] at t
        have c := ceq_ok (okD_pd (n := 0) hu hv) (by omega)
        have st : exSs Φ Φf G fuel n0 lFRa [some (pd u v), x1, x2, some (rowT r), x4, x5] S = .ret (.lst [rowT r]) S false := by
          simp only [rowT] at *
          generalize r.map nmD = rd at *
          simp [lFRa, et, t, c, szL]
        rw [List.map_cons, loopN]
        simp only [setTg, sg, st, then_ret]
    · have tf : tellsB u v r = false := decide_eq_false hr
      have c : cmpD .Eq (pd (toldW r).1 (toldW r).2) (pd u v) = some (.bl false) := ceq_no (okD_pd (n := 0) w1 w2) (okD_pd (n := 0) hu hv) (by omega) (by omega) rfl rfl (by
        intro z
        injection z with z
        simp at z
        exact hr (Prod.ext z.1 z.2))
      have st : exSs Φ Φf G fuel n0 lFRa [some (pd u v), x1, x2, some (rowT r), x4, x5] S = .next [some (pd u v), x1, x2, some (rowT r), x4, x5] S := by
        simp only [rowT] at *
        generalize r.map nmD = rd at *
        generalize (toldW r).1 = P at *
        generalize (toldW r).2 = Q at *
        simp [lFRa, et, t, c]
      have step : loopN (exSs Φ Φf G fuel n0 lFRa) (.one 3) ((r :: L).map rowT) [some (pd u v), x1, x2, x3, x4, x5] S = loopN (exSs Φ Φf G fuel n0 lFRa) (.one 3) (L.map rowT) [some (pd u v), x1, x2, some (rowT r), x4, x5] S := by
        rw [List.map_cons, loopN]
        simp only [setTg, sg, st, then_next]
      rcases loopA et ht hu hv (n0 := n0) (S := S) (x1 := x1) (x2 := x2) (x4 := x4) (x5 := x5) L (some (rowT r)) (fun s hs => hL s (List.mem_cons_of_mem _ hs)) with ⟨s, e1, e2⟩ | ⟨y3, e1, e2⟩
      · exact .inl ⟨s, by rw [List.find?_cons, tf]; exact e1, by rw [step, e2]⟩
      · exact .inr ⟨y3, by rw [List.find?_cons, tf]; exact e1, by rw [step, e2]⟩
def ext3 (r : List Nm) : List (List Nm) := [r ++ [.back], r ++ [.front], r ++ [.swap]]
theorem cfr_ev {r : List Nm} (hr : r.length ≤ 18) {a0 a1 a2 a4 a5 : Option D} {S : Sto} : ev Φ G cFR [a0, a1, a2, some (rowT r), a4, a5] S = .ok (.lst ((ext3 r).map rowT)) S := by
  have add : ∀ n : Nm, addD (rowT r) (.tup [nmD n]) = some (rowT (r ++ [n])) := by
    intro n
    rw [add_tup (by simp [szL]; omega)]
    simp [rowT]
  have l : ∀ cond elt, cond = ev Φ G (.con (.bl true)) → elt = ev Φ G eFR → lcLoop cond elt (.one 5) [a0, a1, a2, some (rowT r), a4, none] [nmD .back, nmD .front, nmD .swap] [] S = .ok (.lst ((ext3 r).map rowT)) S := by
    rintro cond elt rfl rfl
    have x : ∀ n : Nm, ev Φ G eFR [a0, a1, a2, some (rowT r), a4, some (nmD n)] S = .ok (rowT (r ++ [n])) S := by
      intro n
      have nl : noLoc (nmD n) = true := rfl
      have a := add n
      simp only [rowT] at *
      generalize r.map nmD = rd at *
      simp [eFR, nl, a, szL]
    have nr : ∀ s : List Nm, noLoc (rowT s) = true := fun _ => rfl
    have x1 := x .back
    have x2 := x .front
    have x3 := x .swap
    unfold ext3
    generalize ev Φ G eFR = E at *
    simp [lcLoop, x1, x2, x3, nr]
  have l := l _ _ rfl rfl
  simp only [cFR, ev, evs]
  simp at l
  have l : lcLoop (fun x S => R.ok (D.bl true) S) (ev Φ G eFR) (.one 5) [a0, a1, a2, some (rowT r), a4, none] [.str [98, 97, 99, 107], .str [102, 114, 111, 110, 116], .str [115, 119, 97, 112]] [] S = .ok (.lst ((ext3 r).map rowT)) S := l
  simp [l, szL]
theorem loopB {n0 : Nat} {S : Sto} {x0 x1 x2 x5 : Option D} : ∀ (L acc : List (List Nm)) (x3 : Option D), (∀ r ∈ L, r.length ≤ 18) → 3 * L.length + acc.length ≤ 10000 →
    ∃ y3, loopN (exSs Φ Φf G fuel n0 lFRb) (.one 3) (L.map rowT) [x0, x1, x2, x3, some (.lst (acc.map rowT)), x5] S = .next [x0, x1, x2, y3, some (.lst ((acc ++ L.flatMap ext3).map rowT)), x5] S
  | [], acc, x3, _, _ => ⟨x3, by simp [loopN]⟩
  | r :: L, acc, x3, hL, hz => by
    have c := cfr_ev (Φ := Φ) (G := G) (r := r) (hL r (List.mem_cons_self ..)) (a0 := x0) (a1 := x1) (a2 := x2) (a4 := some (.lst (acc.map rowT))) (a5 := x5) (S := S)
    have ad : addD (.lst (acc.map rowT)) (.lst ((ext3 r).map rowT)) = some (.lst ((acc ++ ext3 r).map rowT)) := by
      rw [addL (by simp [ext3, szL]; simp at hz; omega), List.map_append]
    have le : (ext3 r).length = 3 := rfl
    obtain ⟨y3, e⟩ := loopB (n0 := n0) (S := S) (x0 := x0) (x1 := x1) (x2 := x2) (x5 := x5) L (acc ++ ext3 r) (some (rowT r)) (fun s hs => hL s (List.mem_cons_of_mem _ hs)) (by rw [List.length_append, le]; simp at hz; omega)
    refine ⟨y3, ?_⟩
    rw [List.flatMap_cons, ← List.append_assoc, ← e]
    generalize (ext3 r).map rowT = E3 at *
    generalize (acc ++ ext3 r).map rowT = A3 at *
    rw [List.map_cons, loopN]
    simp only [setTg]
    have st : exSs Φ Φf G fuel n0 lFRb [x0, x1, x2, some (rowT r), some (.lst (acc.map rowT)), x5] S = .next [x0, x1, x2, some (rowT r), some (.lst A3), x5] S := by
      generalize acc.map rowT = A0 at *
      generalize rowT r = RR at *
      simp [lFRb, c, ad]
    have sg : ([x0, x1, x2, x3, some (.lst (acc.map rowT)), x5] : Gam).set 3 (some (rowT r)) = [x0, x1, x2, some (rowT r), some (.lst (acc.map rowT)), x5] := rfl
    simp only [sg, st, then_next]
theorem rowsK_len : ∀ k, (rowsK k).length = 3 ^ k
  | 0 => rfl
  | k + 1 => by
    rw [rowsK, List.length_flatMap]
    have : (List.map (fun r : List Nm => ([r ++ [Nm.back], r ++ [Nm.front], r ++ [Nm.swap]] : List (List Nm)).length) (rowsK k)) = List.replicate (rowsK k).length 3 := by
      rw [List.eq_replicate_iff]
      exact ⟨by simp, fun b hb => by simp at hb; exact hb.2.symm⟩
    rw [this, List.sum_replicate_nat, rowsK_len k, Nat.pow_succ]
def FrwOk (F : Fsem) : Prop := ∀ (g : List Nm) (u v : List Nat) (S : Sto), Wd u → Wd v → Gre g u v → F [pd u v] S = .ok (.lst (if g.length ≤ 5 then [rowT g] else [])) S
theorem frwOk {Ft : Fsem} (et : Φ "_law_told" = some Ft) (ht : ToOk Ft) : FrwOk (fsem Φ Φf G fuel 1 6 bFirstRow) := by
  intro g u v S hu hv hg
  have key := loop0 (body := exSs Φ Φf G fuel S.length lFR) (tg := .one 2) (items := rngL 0 6)
    (fun k Γ S' => S' = S ∧ k ≤ g.length ∧ ∃ x2 x3 x4 x5, Γ = [some (pd u v), some (.lst ((rowsK k).map rowT)), x2, x3, x4, x5])
    (fun q => (q = .ret (.lst [rowT g]) S false ∧ g.length ≤ 5) ∨ (5 < g.length ∧ ∃ Γ, q = .next Γ S))
    (Γ := [some (pd u v), some (.lst [.tup []]), none, none, none, none]) (S := S) ⟨rfl, by omega, none, none, none, none, rfl⟩ (fun k x Γ S' hx hI => ?_) (fun Γ S' hI => ?_)
  · have it : itD .rng [.int 6] = some (rngL 0 6) := it_rng1 rfl rfl
    rcases key with ⟨e, hl⟩ | ⟨hl, Γ, e⟩
    · rw [if_pos hl]
      simp only [rowT] at *
      generalize g.map nmD = gd at *
      simp [bFirstRow, it, e, szL]
    · rw [if_neg (by omega)]
      simp [bFirstRow, it, e, szL]
  · obtain ⟨rfl, hk, x2, x3, x4, x5, rfl⟩ := hI
    obtain ⟨hk6, rfl⟩ := rngAt hx
    refine ⟨_, rfl, ?_⟩
    have hL : ∀ r ∈ rowsK k, r.length ≤ 18 := by
      intro r hr
      rw [rows_eq] at hr
      rw [rowsF_len k hr]; omega
    have it : ∀ xs : List D, itD .seq [.lst xs] = some xs := fun _ => rfl
    rcases loopA (Φ := Φ) (Φf := Φf) (G := G) (fuel := fuel) et ht hu hv (n0 := S'.length) (S := S') (x1 := some (.lst ((rowsK k).map rowT))) (x2 := some (.int (0 + (k : Int)))) (x4 := x4) (x5 := x5) (rowsK k) x3 hL with ⟨r, e1, e2⟩ | ⟨y3, e1, e2⟩
    · right
      have hr : g.length = k := by
        rcases Nat.lt_or_ge k g.length with z | z
        · have hm := List.mem_of_find?_eq_some e1
          rw [rows_eq] at hm
          have := gre_none hu hv hg z hm
          rw [List.find?_some e1] at this
          cases this
        · omega
      have hf := gre_find hu hv hg
      rw [hr, ← rows_eq, e1] at hf
      cases hf
      refine ⟨_, _, _, ?_, .inl ⟨rfl, by omega⟩⟩
      generalize (rowsK k).map rowT = RK at *
      generalize rowT g = RR at *
      simp only [Int.zero_add] at e2 ⊢
      simp [lFR, it, e2]
    · left
      have hlt : k + 1 ≤ g.length := by
        rcases Nat.lt_or_ge k g.length with z | z
        · exact z
        · exfalso
          have hr : g.length = k := by omega
          have hf := gre_find hu hv hg
          rw [hr, ← rows_eq, e1] at hf
          cases hf
      obtain ⟨z3, e3⟩ := loopB (Φ := Φ) (Φf := Φf) (G := G) (fuel := fuel) (n0 := S'.length) (S := S') (x0 := some (pd u v)) (x1 := some (.lst ((rowsK k).map rowT))) (x2 := some (.int (0 + (k : Int)))) (x5 := x5) (rowsK k) [] y3 hL (by
        rw [rowsK_len]
        have : 3 ^ k ≤ 3 ^ 5 := Nat.pow_le_pow_right (by omega) (by omega)
        simp; omega)
      have rk : rowsK (k + 1) = (rowsK k).flatMap ext3 := rfl
      rw [List.nil_append, ← rk] at e3
      refine ⟨[some (pd u v), some (.lst ((rowsK (k + 1)).map rowT)), some (.int (0 + (k : Int))), z3, some (.lst ((rowsK (k + 1)).map rowT)), x5], S', ?_, rfl, hlt, _, _, _, _, rfl⟩
      generalize (rowsK (k + 1)).map rowT = RK1 at *
      generalize (rowsK k).map rowT = RK at *
      have e3 : loopN (exSs Φ Φf G fuel S'.length lFRb) (.one 3) RK [some (pd u v), some (.lst RK), some (.int (0 + (k : Int))), y3, some (.lst []), x5] S' = _ := e3
      simp only [Int.zero_add] at e2 e3 ⊢
      simp [lFR, it, e2, e3, szL]
  · obtain ⟨rfl, hk, x2, x3, x4, x5, rfl⟩ := hI
    rw [rng_len] at hk
    exact .inr ⟨by omega, _, rfl⟩
/-! ### _law_right -/
def bRight13 : List CS := [.set (.one 2) (.call "row_of" [.var 1]),
  .ite (.cmp .NotEq (.cmp .IsNot (.var 2) (.con .non)) (.and (.call "keeps" [.var 1]) (.cmp .NotEq (.bin .Add (.idx (.var 1) (.con (.int 0))) (.idx (.var 1) (.con (.int 1)))) (.bin .Add (.idx (.var 1) (.con (.int 1))) (.idx (.var 1) (.con (.int 0))))))) [.ret (.con (.bl false))] [],
  .ite (.or (.cmp .Gt (.bin .Add (.blt .len [.idx (.var 1) (.con (.int 0))]) (.blt .len [.idx (.var 1) (.con (.int 1))])) (.con (.int 7))) (.cmp .Is (.var 2) (.con .non))) [.ret (.con (.bl true))] [],
  .set (.one 3) (.call "_law_first_row" [.var 1]),
  .ret (.or (.and (.cmp .Eq (.var 3) (.lst [])) (.cmp .Gt (.blt .len [.var 2]) (.con (.int 5)))) (.cmp .Eq (.var 3) (.lst [.var 2])))]
def R13 (F : Fsem) : Prop := ∀ (u v : List Nat) (S : Sto), Rp u v → F [.loc 0, pd u v] S = .ok (.bl true) S
theorem r13 {Fr Fk Ff : Fsem} (er : Φ "row_of" = some Fr) (hr : RiOk Fr) (ek : Φ "keeps" = some Fk) (hk : KpOk Fk) (ef : Φ "_law_first_row" = some Ff) (hf : FrwOk Ff) : R13 (fsem Φ Φf G fuel 2 4 bRight13) := by
  intro u v S r
  have lu := r.u2
  have lv := r.v2
  obtain ⟨o, e, ho⟩ := hr u v S r
  have a1 := add_str (s := u) (t := v) (by simp [szL]; omega)
  have a2 := add_str (s := v) (t := u) (by simp [szL]; omega)
  have l1 := lenS_of (s := u) (by omega)
  have l2 := lenS_of (s := v) (by omega)
  have ns : ∀ a b : List Nat, cmpD .NotEq (.str a) (.str b) = some (.bl (!decide (a = b))) := fun _ _ => rfl
  cases o with
  | none =>
    have e : Fr [pd u v] S = .ok .non S := e
    have i1 : cmpD .IsNot .non .non = some (.bl false) := rfl
    have i2 : cmpD .Is .non .non = some (.bl true) := rfl
    have cb : cmpD .NotEq (.bl false) (.bl false) = some (.bl false) := rfl
    have rest : ∀ b, (b = true → u ++ v = v ++ u) → Fk [pd u v] S = .ok (.bl b) S → fsem Φ Φf G fuel 2 4 bRight13 [.loc 0, pd u v] S = .ok (.bl true) S := by
      intro b hb hF
      cases b with
      | true =>
        have hag := hb rfl
        rw [hag] at a1
        generalize v ++ u = W at *
        by_cases c : (7 : Int) < (u.length : Int) + v.length
        · simp [bRight13, er, e, ek, hF, i1, i2, cb, a1, a2, l1, l2, c, ns]
        · simp [bRight13, er, e, ek, hF, i1, i2, cb, a1, a2, l1, l2, c, ns]
      | false =>
        by_cases c : (7 : Int) < (u.length : Int) + v.length
        · simp [bRight13, er, e, ek, hF, i1, i2, cb, l1, l2, c]
        · simp [bRight13, er, e, ek, hF, i1, i2, cb, l1, l2, c]
    rcases hk u v S r with ⟨h, hF⟩ | ⟨h, hF⟩
    · refine rest true (fun _ => ?_) hF
      by_cases hag : u ++ v = v ++ u
      · exact hag
      · obtain ⟨q, hq⟩ := h.2 hag
        exact absurd hq (ho q)
    · exact rest false (fun z => by cases z) hF
  | some g =>
    have hg := ho.1
    have tg := gre_told r.wu r.wv hg
    have na : u ++ v ≠ v ++ u := by
      have := told_na g
      rw [tg] at this
      exact this
    have kp : Fk [pd u v] S = .ok (.bl true) S := by
      rcases hk u v S r with ⟨h, hF⟩ | ⟨h, hF⟩
      · exact hF
      · exact absurd ⟨fun z => absurd z na, fun _ => ⟨g, tg⟩⟩ h
    have e : Fr [pd u v] S = .ok (rowT g) S := e
    have i1 : cmpD .IsNot (rowT g) .non = some (.bl true) := rfl
    have i2 : cmpD .Is (rowT g) .non = some (.bl false) := rfl
    have cb : cmpD .NotEq (.bl true) (.bl true) = some (.bl false) := rfl
    have f1 := hf g u v S r.wu r.wv hg
    have L1 := lenT (ns := g)
    by_cases c : (7 : Int) < (u.length : Int) + v.length
    · simp only [rowT] at *
      generalize g.map nmD = gd at *
      simp [bRight13, er, e, ek, kp, i1, i2, cb, a1, a2, na, ns, l1, l2, c]
    · by_cases h5 : g.length ≤ 5
      · rw [if_pos h5] at f1
        have q1 : cmpD .Eq (.lst [rowT g]) (.lst []) = some (.bl false) := ceq_no (n := 2) (m := 0) (by show (okD 1 (rowT g) && true) = true; rw [okD_row]; rfl) rfl (by omega) (by omega) (by show (noB (rowT g) && true) = true; rw [noB_row]; rfl) rfl (by intro z; injection z with z; cases z)
        have q2 : cmpD .Eq (.lst [rowT g]) (.lst [rowT g]) = some (.bl true) := ceq_ok (n := 2) (by show (okD 1 (rowT g) && true) = true; rw [okD_row]; rfl) (by omega)
        simp only [rowT] at *
        generalize g.map nmD = gd at *
        simp [bRight13, er, e, ek, kp, i1, i2, cb, a1, a2, na, ns, l1, l2, c, ef, f1, q1, q2, szL]
      · rw [if_neg h5] at f1
        have q1 : cmpD .Eq (.lst []) (.lst []) = some (.bl true) := rfl
        have c5 : (5 : Int) < (g.length : Int) := by omega
        simp only [rowT] at *
        generalize g.map nmD = gd at *
        simp [bRight13, er, e, ek, kp, i1, i2, cb, a1, a2, na, ns, l1, l2, c, ef, f1, q1, L1, c5, szL]
end
end EK

set_option Elab.async false
set_option linter.all false
set_option maxRecDepth 100000
set_option maxHeartbeats 4000000
namespace EK
open PySem L2 PySem.Spec PyProof.Rows
/-! ### rows by hand -/
def bigG : Nat → List Nm
  | 0 => [.front]
  | n + 1 => .front :: .swap :: bigG n
theorem bigG_eq : ∀ n, bigG n = (List.replicate n [Nm.front, Nm.swap]).flatten ++ [.front]
  | 0 => rfl
  | n + 1 => by rw [bigG, bigG_eq n, List.replicate_succ, List.flatten_cons]; rfl
theorem bigG_head : ∀ n, (bigG n).head? ≠ some .swap
  | 0 => by simp [bigG]
  | n + 1 => by simp [bigG]
theorem wd_repl {c n : Nat} (h : c = 97 ∨ c = 98) : Wd (List.replicate n c) := fun x hx => by
  rw [(List.mem_replicate.mp hx).2]; exact h
theorem pl_repb {n : Nm} : ∀ k, pl n (List.replicate k 98) = List.replicate k 97
  | 0 => rfl
  | k + 1 => by rw [List.replicate_succ, pl_b, pl_repb k, ← List.replicate_succ]
theorem gre_big : ∀ n, Gre (bigG n) (List.replicate (n + 1) 97 ++ [98]) [97]
  | 0 => greB_ok (by decide)
  | n + 1 => by
    have w1 : Wd (List.replicate (n + 1) 98 ++ [97]) := wdA.mpr ⟨wd_repl (.inr rfl), fun c h => by simp at h; exact .inl h⟩
    have f1 : pl .front (List.replicate (n + 1) 98 ++ [97]) = List.replicate (n + 2) 97 ++ [98] := by
      rw [pl_app, pl_repb]
      show List.replicate (n + 1) 97 ++ [97, 98] = _
      rw [show List.replicate (n + 2) 97 = List.replicate (n + 1) 97 ++ [97] by rw [← List.replicate_succ'], List.append_assoc]
      rfl
    have b0 : bo (List.replicate (n + 2) 97 ++ [98]) = none := by
      unfold bo fo
      rw [List.reverse_append, if_pos (.inl (by simp))]
      rfl
    have l1 : ledW .back (List.replicate (n + 2) 97 ++ [98]) [97] = none := by
      unfold ledW
      simp only [ways, b0]
    have l2 : ledW .front (List.replicate (n + 2) 97 ++ [98]) [97] = some (List.replicate (n + 1) 98 ++ [97], [98]) := by
      have := led_pl (n := .front) (by simp) w1 (y := [98]) (fun c h => by simp at h; exact .inr h)
      rw [f1] at this
      exact this
    have b1 : bo [98] = none := by decide
    have f2 : fo [98] = none := by decide
    have l3 : ledW .back (List.replicate (n + 1) 98 ++ [97]) [98] = none := by
      unfold ledW
      simp only [ways, b1]
      cases bo (List.replicate (n + 1) 98 ++ [97]) <;> rfl
    have l4 : ledW .front (List.replicate (n + 1) 98 ++ [97]) [98] = none := by
      unfold ledW
      simp only [ways, f2]
      cases fo (List.replicate (n + 1) 98 ++ [97]) <;> rfl
    have s1 : pl .swap (List.replicate (n + 1) 98 ++ [97]) = List.replicate (n + 1) 97 ++ [98] := by
      rw [pl_app, pl_repb]; rfl
    refine ⟨l1, _, _, l2, l3, l4, bigG_head n, ?_⟩
    rw [s1]
    exact gre_big n
theorem told_sw2 : ∀ k, toldW (List.replicate (2 * k) Nm.swap) = ([97], [98])
  | 0 => rfl
  | k + 1 => by
    rw [show 2 * (k + 1) = (2 * k + 1) + 1 by omega, List.replicate_succ, List.replicate_succ]
    rw [told_cons (told_cons (told_sw2 k))]
    rfl
theorem flat_rep {α β : Type} (f : α → β) (xs : List α) : ∀ k, (List.replicate k (xs.map f)).flatten = ((List.replicate k xs).flatten).map f
  | 0 => rfl
  | k + 1 => by rw [List.replicate_succ, List.flatten_cons, flat_rep f xs k, List.replicate_succ, List.flatten_cons, List.map_append]
theorem flat_one {α : Type} (x : α) : ∀ k, (List.replicate k [x]).flatten = List.replicate k x
  | 0 => rfl
  | k + 1 => by rw [List.replicate_succ, List.flatten_cons, flat_one x k, List.replicate_succ]; rfl
theorem mul_row {ns : List Nm} {k : Nat} (h0 : ns ≠ []) (h1 : ns.length ≤ 10) (h2 : k ≤ 1000) : mulD (rowT ns) (.int k) = some (rowT (List.replicate k ns).flatten) := by
  have hne : ns.map nmD ≠ [] := by simpa using h0
  show (if ns.map nmD = [] then none else if (k : Int) = 0 then some (D.tup []) else if (k : Int) = 1 then some (D.tup (ns.map nmD)) else if 2 ≤ (k : Int) ∧ (k : Int) ≤ 1000 ∧ (ns.map nmD).length ≤ 1000 then some (D.tup (List.replicate (k : Int).toNat (ns.map nmD)).flatten) else none) = _
  rw [if_neg hne]
  by_cases k0 : k = 0
  · subst k0; rfl
  · rw [if_neg (by omega)]
    by_cases k1 : k = 1
    · subst k1; simp [rowT]
    · rw [if_neg (by omega), if_pos ⟨by omega, by omega, by rw [List.length_map]; omega⟩, Int.toNat_natCast, flat_rep]
theorem add_row {a b : List Nm} (h : a.length + b.length ≤ 1000) : addD (rowT a) (rowT b) = some (rowT (a ++ b)) := by
  rw [add_tup (by rw [List.length_map, List.length_map]; show _ ≤ 16777216; omega)]
  show some (D.tup (a.map nmD ++ b.map nmD)) = some (D.tup ((a ++ b).map nmD))
  rw [List.map_append]
section
variable {Φ Φf : Str → Option Fsem} {G : Str → Option D} {fuel : Nat}
def lL13 : List CS := [.set (.one 6) (.call "_law_names" [.var 1, .con (.int 12)]),
  .set (.one 7) (.call "_law_told" [.var 6]),
  .ite (.or (.cmp .NotEq (.call "told_by" [.var 6]) (.var 7)) (.or (.cmp .NotEq (.callk "told_by" [.var 6]) (.var 7)) (.not (.call "_law_row_right" [.var 7, .var 6])))) [.ret (.con (.bl false))] [],
  .ite (.and (.cmp .Lt (.var 2) (.con (.int 4))) (.not (.call "_law_right" [.var 1, .call "_law_pair" [.var 1, .con (.int 3)]]))) [.ret (.con (.bl false))] []]
theorem lap13 {Fn Ft Fb Fr Fw Fp : Fsem} (en : Φ "_law_names" = some Fn) (hn : LnmOk Fn) (et : Φ "_law_told" = some Ft) (ht : ToOk Ft) (eb : Φ "told_by" = some Fb) (hb : TbOk Fb) (er : Φ "_law_row_right" = some Fr) (hr : RrOk Fr) (ew : Φ "_law_right" = some Fw) (hw : R13 Fw) (ep : Φ "_law_pair" = some Fp) (hp : LpOk Fp)
    {b : Int} {S : Sto} {n0 : Nat} {A x3 x4 x5 x6 x7 : Option D} {i : Nat} (h0 : DS b S) (hb' : b < 2 ^ 37) :
    ∃ y6 y7 S', exSs Φ Φf G fuel n0 lL13 [A, some (.loc 0), some (.int (i : Nat)), x3, x4, x5, x6, x7] S = .next [A, some (.loc 0), some (.int (i : Nat)), x3, x4, x5, y6, y7] S' ∧ DS (b + 1113) S' := by
  obtain ⟨ns, S1, e1, l0, l1, l2, h1⟩ := hn b 12 S h0 (by omega) (by omega)
  have e1 : Fn [.loc 0, .int 12] S = .ok (rowT ns) S1 := e1
  have t := ht ns S1 (by omega)
  have t : Ft [rowT ns] S1 = _ := t
  have tb := hb ns S1 (by omega) l1 l2
  have rr := hr ns S1 (by omega) l1 l2
  have rp := told_rp l1 l2
  have ne := cne_ok (okD_pd (n := 0) rp.wu rp.wv) (by omega)
  obtain ⟨u, v, S2, e2, r2, h2⟩ := hp (b + 1 + (12 : Nat)) 3 S1 h1 (by omega) (by omega)
  have e2 : Fp [.loc 0, .int 3] S1 = .ok (pd u v) S2 := e2
  have w := hw u v S2 r2
  generalize (toldW ns).1 = X at *
  generalize (toldW ns).2 = Y at *
  simp only [rowT] at *
  generalize ns.map nmD = nd at *
  by_cases c : (i : Int) < 4
  · refine ⟨some (.tup nd), some (pd X Y), S2, ?_, h2.mono (by omega)⟩
    simp [lL13, en, e1, et, t, eb, tb, ne, er, rr, c, ep, e2, ew, w]
  · refine ⟨some (.tup nd), some (pd X Y), S1, ?_, h1.mono (by omega)⟩
    simp [lL13, en, e1, et, t, eb, tb, ne, er, rr, c]
def cW (u v : List Nat) : CE := .call "row_of" [.tup [.con (.str u), .con (.str v)]]
theorem cw_some {Fr : Fsem} (er : Φ "row_of" = some Fr) (hr : RiOk Fr) {u v : List Nat} {Γ : Gam} {S : Sto} (g : List Nm) (r : Rp u v) (h : Gre g u v) : ev Φ G (cW u v) Γ S = .ok (rowT g) S := by
  obtain ⟨o, e, ho⟩ := hr u v S r
  rw [rowS_gre r.wu r.wv h ho] at e
  have e : Fr [pd u v] S = .ok (rowT g) S := e
  generalize rowT g = R at *
  simp [cW, er, e, szL]
theorem cw_none {Fr : Fsem} (er : Φ "row_of" = some Fr) (hr : RiOk Fr) {u v : List Nat} {Γ : Gam} {S : Sto} (r : Rp u v) (h : ∀ q, toldW q ≠ (u, v)) : ev Φ G (cW u v) Γ S = .ok .non S := by
  obtain ⟨o, e, ho⟩ := hr u v S r
  cases o with
  | some ns => exact absurd (gre_told r.wu r.wv ho.1) (h ns)
  | none =>
    have e : Fr [pd u v] S = .ok .non S := e
    simp [cW, er, e, szL]
end
end EK

set_option Elab.async false
set_option linter.all false
set_option maxRecDepth 100000
set_option maxHeartbeats 4000000
namespace EK
open PySem L2 PySem.Spec PyProof.Rows
section
variable {Φ Φf : Str → Option Fsem} {G : Str → Option D} {fuel : Nat}
def tC (ns : List Nm) : CE := .tup (ns.map fun n => .con (.str n.s))
theorem evs_con : ∀ (ns : List Nm) (Γ : Gam) (S : Sto), evs Φ G (ns.map fun n => .con (.str n.s)) Γ S = .ok (ns.map nmD) S
  | [], Γ, S => by simp
  | n :: ns, Γ, S => by
    simp only [List.map_cons, evs, ev, evs_con ns Γ S]
    rfl
theorem noLoc_nm (ns : List Nm) : (ns.map nmD).all noLoc = true := by
  rw [List.all_eq_true]
  intro x hx
  obtain ⟨n, _, rfl⟩ := List.mem_map.mp hx
  rfl
theorem tC_ev {ns : List Nm} (h : ns.length ≤ 100) {Γ : Gam} {S : Sto} : ev Φ G (tC ns) Γ S = .ok (rowT ns) S := by
  rw [tC, ev, evs_con, bindA_ok, if_pos ⟨noLoc_nm ns, by rw [List.length_map]; show _ ≤ 16777216; omega⟩]
def lR13 : List CS := [.set (.one 7) (.call "_law_told" [.bin .Add (.bin .Add (tC [.front, .front]) (.bin .Mult (tC [.swap, .front]) (.var 5))) (tC [.back])]),
  .ite (.cmp .NotEq (.call "row_of" [.var 7]) (.bin .Add (.bin .Add (tC [.back, .back]) (.bin .Mult (tC [.swap, .back]) (.var 5))) (tC [.front]))) [.ret (.con (.bl false))] []]
def due13 : List D := [rowT [], rowT [.swap], rowT [.back, .swap], .non, .non, rowT [.front, .front], rowT [.back, .front], rowT [.front, .back], pd [97] [98], pd [97] [98]]
def bRest13 : List CS := [.set (.one 3) (.lst [cW [97] [98], cW [98] [97], cW [97] [98, 97], cW [97, 97] [97], cW [97, 98] [98, 97]]),
  .set (.one 3) (.bin .Add (.var 3) (.lst [cW [97, 98, 97] [97, 98], cW [98, 97, 97] [98, 97], cW [97, 97, 98] [97, 98], .call "told_by" [tC []], .call "told_by" [.bin .Mult (tC [.swap]) (.con (.int 400))]])),
  .set (.one 4) (.lst [tC [], tC [.swap], tC [.back, .swap], .con .non, .con .non, tC [.front, .front], tC [.back, .front], tC [.front, .back]]),
  .ite (.or (.cmp .NotEq (.var 3) (.bin .Add (.var 4) (.lst [.tup [.con (.str [97]), .con (.str [98])], .tup [.con (.str [97]), .con (.str [98])]]))) (.cmp .NotEq (cW [97, 98, 97] [97]) (tC [.back, .swap, .front]))) [.ret (.con (.bl false))] [],
  .ite (.cmp .NotEq (cW [97, 98, 97, 98, 97] [97, 98, 97]) (tC [.back, .back, .front])) [.ret (.con (.bl false))] [],
  .loop (.one 5) .rng [.con (.int 3)] lR13,
  .ret (.cmp .Eq (.call "row_of" [.tup [.bin .Add (.bin .Mult (.con (.str [97])) (.con (.int 59))) (.con (.str [98])), .con (.str [97])]]) (.bin .Add (.bin .Mult (tC [.front, .swap]) (.con (.int 58))) (tC [.front])))]
def rA (t : Nat) : List Nm := [Nm.front, .front] ++ (List.replicate t [Nm.swap, .front]).flatten ++ [.back]
def rB (t : Nat) : List Nm := [Nm.back, .back] ++ (List.replicate t [Nm.swap, .back]).flatten ++ [.front]
theorem rAB : ∀ t, t < 3 → Gre (rB t) (toldW (rA t)).1 (toldW (rA t)).2 ∧ (toldW (rA t)).1.length ≤ 60 ∧ (toldW (rA t)).2.length ≤ 60 ∧ (rA t).length ≤ 18
  | 0, _ => ⟨greB_ok (by decide +kernel), by decide +kernel, by decide +kernel, by decide⟩
  | 1, _ => ⟨greB_ok (by decide +kernel), by decide +kernel, by decide +kernel, by decide⟩
  | 2, _ => ⟨greB_ok (by decide +kernel), by decide +kernel, by decide +kernel, by decide⟩
  | t + 3, h => by omega
theorem body13 {Ft Fr : Fsem} (et : Φ "_law_told" = some Ft) (ht : ToOk Ft) (er : Φ "row_of" = some Fr) (hr : RiOk Fr) {t : Nat} (h3 : t < 3) {a0 a1 a2 a3 a4 a6 a7 : Option D} {S : Sto} {n0 : Nat} :
    ∃ y7, exSs Φ Φf G fuel n0 lR13 [a0, a1, a2, a3, a4, some (.int (t : Nat)), a6, a7] S = .next [a0, a1, a2, a3, a4, some (.int (t : Nat)), a6, y7] S := by
  obtain ⟨g, l1, l2, l3⟩ := rAB t h3
  have rp := told_rp l1 l2
  have t1 := ht (rA t) S l3
  have t1 : Ft [rowT (rA t)] S = _ := t1
  obtain ⟨o, e, ho⟩ := hr _ _ S rp
  rw [rowS_gre rp.wu rp.wv g ho] at e
  have e : Fr [pd (toldW (rA t)).1 (toldW (rA t)).2] S = .ok (rowT (rB t)) S := e
  have m1 := mul_row (ns := [.swap, .front]) (k := t) (by simp) (by simp) (by omega)
  have m2 := mul_row (ns := [.swap, .back]) (k := t) (by simp) (by simp) (by omega)
  have fl : ∀ a b : Nm, ((List.replicate t [a, b]).flatten).length ≤ 10 := by
    intro a b
    rw [List.length_flatten]
    simp
    omega
  have f1 := fl .swap .front
  have f2 := fl .swap .back
  have a1' := add_row (a := [.front, .front]) (b := (List.replicate t [Nm.swap, .front]).flatten) (by simp only [List.length_cons, List.length_nil]; omega)
  have a2' := add_row (a := [.front, .front] ++ (List.replicate t [Nm.swap, .front]).flatten) (b := [.back]) (by simp only [List.length_append, List.length_cons, List.length_nil]; omega)
  have a3' := add_row (a := [.back, .back]) (b := (List.replicate t [Nm.swap, .back]).flatten) (by simp only [List.length_cons, List.length_nil]; omega)
  have a4' := add_row (a := [.back, .back] ++ (List.replicate t [Nm.swap, .back]).flatten) (b := [.front]) (by simp only [List.length_append, List.length_cons, List.length_nil]; omega)
  have ne := cne_ok (okD_row (rB t) 0) (by omega)
  have c1 : ∀ Γ, ev Φ G (tC [.front, .front]) Γ S = .ok (rowT [.front, .front]) S := fun Γ => tC_ev (by simp)
  have c2 : ∀ Γ, ev Φ G (tC [.swap, .front]) Γ S = .ok (rowT [.swap, .front]) S := fun Γ => tC_ev (by simp)
  have c3 : ∀ Γ, ev Φ G (tC [.back]) Γ S = .ok (rowT [.back]) S := fun Γ => tC_ev (by simp)
  have c4 : ∀ Γ, ev Φ G (tC [.back, .back]) Γ S = .ok (rowT [.back, .back]) S := fun Γ => tC_ev (by simp)
  have c5 : ∀ Γ, ev Φ G (tC [.swap, .back]) Γ S = .ok (rowT [.swap, .back]) S := fun Γ => tC_ev (by simp)
  have c6 : ∀ Γ, ev Φ G (tC [.front]) Γ S = .ok (rowT [.front]) S := fun Γ => tC_ev (by simp)
  have vr : ∀ ns : List Nm, vw S (rowT ns) = rowT ns := fun _ => rfl
  have v1 := vr [.front, .front]
  have v2 := vr [.swap, .front]
  have v3 := vr [.back]
  have v4 := vr [.back, .back]
  have v5 := vr [.swap, .back]
  have v6 := vr [.front]
  have v7 := vr (List.replicate t [Nm.swap, .front]).flatten
  have v8 := vr (List.replicate t [Nm.swap, .back]).flatten
  have v9 := vr ([.front, .front] ++ (List.replicate t [Nm.swap, .front]).flatten)
  have v10 := vr ([.back, .back] ++ (List.replicate t [Nm.swap, .back]).flatten)
  have v11 := vr (rB t)
  refine ⟨some (pd (toldW (rA t)).1 (toldW (rA t)).2), ?_⟩
  unfold rA rB at *
  clear vr l1 l2 l3 g rp ho fl f1 f2
  generalize (toldW ([Nm.front, .front] ++ (List.replicate t [Nm.swap, .front]).flatten ++ [.back])).1 = X at *
  generalize (toldW ([Nm.front, .front] ++ (List.replicate t [Nm.swap, .front]).flatten ++ [.back])).2 = Y at *
  generalize rowT ([Nm.front, .front] ++ (List.replicate t [Nm.swap, .front]).flatten ++ [.back]) = R1 at *
  generalize rowT ([Nm.back, .back] ++ (List.replicate t [Nm.swap, .back]).flatten ++ [.front]) = R2 at *
  generalize rowT ([Nm.front, .front] ++ (List.replicate t [Nm.swap, .front]).flatten) = R3 at *
  generalize rowT ([Nm.back, .back] ++ (List.replicate t [Nm.swap, .back]).flatten) = R4 at *
  generalize rowT (List.replicate t [Nm.swap, .front]).flatten = R5 at *
  generalize rowT (List.replicate t [Nm.swap, .back]).flatten = R6 at *
  generalize rowT [Nm.front, .front] = Q1 at *
  generalize rowT [Nm.swap, .front] = Q2 at *
  generalize rowT [Nm.back] = Q3 at *
  generalize rowT [Nm.back, .back] = Q4 at *
  generalize rowT [Nm.swap, .back] = Q5 at *
  generalize rowT [Nm.front] = Q6 at *
  simp [lR13, c1, c2, c3, c4, c5, c6, v1, v2, v3, v4, v5, v6, v7, v8, v9, v10, v11, m1, m2, a1', a2', a3', a4', et, t1, er, e, ne]
end
end EK

set_option Elab.async false
set_option linter.all false
set_option maxRecDepth 100000
set_option maxHeartbeats 4000000
namespace EK
open PySem L2 PySem.Spec PyProof.Rows
section
variable {Φ Φf : Str → Option Fsem} {G : Str → Option D} {fuel : Nat}
theorem no_ab : ∀ q, toldW q ≠ ([97, 98], [98, 97]) := fun q =>
  stuck (wdB_ok rfl) (wdB_ok rfl) (by simp) (by decide) (by decide) (by decide) (by decide) (by decide) _ q (Nat.le_refl _)
theorem no_aa : ∀ q, toldW q ≠ ([97, 97], [97]) := fun q e => by
  have := told_na q
  rw [e] at this
  exact this rfl
theorem rest13a {Fr Fb : Fsem} (er : Φ "row_of" = some Fr) (hr : RiOk Fr) (eb : Φ "told_by" = some Fb) (hb : TbOk Fb) {x0 x1 x2 x5 x6 x7 : Option D} (n0 : Nat) :
    exSs Φ Φf G fuel n0 (bRest13.take 5) [x0, x1, x2, none, none, x5, x6, x7] [] = .next [x0, x1, x2, some (.lst due13), some (.lst (due13.take 8)), x5, x6, x7] [] := by
  have hz : szL = 16777216 := rfl
  have q1 : ∀ Γ, ev Φ G (cW [97] [98]) Γ [] = .ok (rowT []) [] := fun Γ => cw_some er hr [] (rpB (by decide)) (greB_ok (by decide))
  have q2 : ∀ Γ, ev Φ G (cW [98] [97]) Γ [] = .ok (rowT [.swap]) [] := fun Γ => cw_some er hr [.swap] (rpB (by decide)) (greB_ok (by decide))
  have q3 : ∀ Γ, ev Φ G (cW [97] [98, 97]) Γ [] = .ok (rowT [.back, .swap]) [] := fun Γ => cw_some er hr [.back, .swap] (rpB (by decide)) (greB_ok (by decide))
  have q4 : ∀ Γ, ev Φ G (cW [97, 97] [97]) Γ [] = .ok .non [] := fun Γ => cw_none er hr (rpB (by decide)) no_aa
  have q5 : ∀ Γ, ev Φ G (cW [97, 98] [98, 97]) Γ [] = .ok .non [] := fun Γ => cw_none er hr (rpB (by decide)) no_ab
  have q6 : ∀ Γ, ev Φ G (cW [97, 98, 97] [97, 98]) Γ [] = .ok (rowT [.front, .front]) [] := fun Γ => cw_some er hr [.front, .front] (rpB (by decide)) (greB_ok (by decide))
  have q7 : ∀ Γ, ev Φ G (cW [98, 97, 97] [98, 97]) Γ [] = .ok (rowT [.back, .front]) [] := fun Γ => cw_some er hr [.back, .front] (rpB (by decide)) (greB_ok (by decide))
  have q8 : ∀ Γ, ev Φ G (cW [97, 97, 98] [97, 98]) Γ [] = .ok (rowT [.front, .back]) [] := fun Γ => cw_some er hr [.front, .back] (rpB (by decide)) (greB_ok (by decide))
  have q9 : ∀ Γ, ev Φ G (cW [97, 98, 97] [97]) Γ [] = .ok (rowT [.back, .swap, .front]) [] := fun Γ => cw_some er hr [.back, .swap, .front] (rpB (by decide)) (greB_ok (by decide))
  have q10 : ∀ Γ, ev Φ G (cW [97, 98, 97, 98, 97] [97, 98, 97]) Γ [] = .ok (rowT [.back, .back, .front]) [] := fun Γ => cw_some er hr [.back, .back, .front] (rpB (by decide)) (greB_ok (by decide))
  have t0 : Fb [rowT []] [] = .ok (pd [97] [98]) [] := hb [] [] (by simp) (by simp [toldW]) (by simp [toldW])
  have s2 := told_sw2 200
  have t1 : Fb [rowT (List.replicate 400 Nm.swap)] [] = .ok (pd [97] [98]) [] := by
    have := hb (List.replicate 400 Nm.swap) [] (by rw [List.length_replicate]; omega) (by rw [show (400 : Nat) = 2 * 200 from rfl, s2]; simp) (by rw [show (400 : Nat) = 2 * 200 from rfl, s2]; simp)
    rw [show (400 : Nat) = 2 * 200 from rfl, s2] at this
    exact this
  have m1 : mulD (rowT [.swap]) (.int 400) = some (rowT (List.replicate 400 Nm.swap)) := by
    have := mul_row (ns := [.swap]) (k := 400) (by simp) (by simp) (by omega)
    rw [flat_one] at this
    exact this
  have c : ∀ (ns : List Nm), ns.length ≤ 100 → ∀ Γ, ev Φ G (tC ns) Γ [] = .ok (rowT ns) [] := fun ns h Γ => tC_ev h
  have c0 := c [] (by simp)
  have c1 := c [.swap] (by simp)
  have c2 := c [.back, .swap] (by simp)
  have c3 := c [.front, .front] (by simp)
  have c4 := c [.back, .front] (by simp)
  have c5 := c [.front, .back] (by simp)
  have c6 := c [.back, .swap, .front] (by simp)
  have c7 := c [.back, .back, .front] (by simp)
  have vr : ∀ ns : List Nm, vw [] (rowT ns) = rowT ns := fun _ => rfl
  have nl : ∀ ns : List Nm, noLoc (rowT ns) = true := fun _ => rfl
  have ne1 := cne_ok (n := 3) (d := .lst due13) (by decide +kernel) (by omega)
  have ne2 := cne_ok (okD_row [.back, .swap, .front] 0) (by omega)
  have ne3 := cne_ok (okD_row [.back, .back, .front] 0) (by omega)
  have v1 := vr [.swap]
  have v6 := vr [.back, .swap, .front]
  have v7 := vr [.back, .back, .front]
  have v8 := vr (List.replicate 400 Nm.swap)
  have l0 := nl []
  have l1 := nl [.swap]
  have l2 := nl [.back, .swap]
  have l3 := nl [.front, .front]
  have l4 := nl [.back, .front]
  have l5 := nl [.front, .back]
  have dd : due13 = [rowT [], rowT [.swap], rowT [.back, .swap], .non, .non, rowT [.front, .front], rowT [.back, .front], rowT [.front, .back], pd [97] [98], pd [97] [98]] := rfl
  rw [dd] at ne1 ⊢
  unfold bRest13
  clear hr hb s2 c vr nl dd
  generalize rowT (List.replicate 400 Nm.swap) = R400 at *
  generalize rowT [] = A0 at *
  generalize rowT [.swap] = A1 at *
  generalize rowT [.back, .swap] = A2 at *
  generalize rowT [.front, .front] = A3 at *
  generalize rowT [.back, .front] = A4 at *
  generalize rowT [.front, .back] = A5 at *
  generalize rowT [.back, .swap, .front] = A6 at *
  generalize rowT [.back, .back, .front] = A7 at *
  have ad1 : addD (.lst [A0, A1, A2, .non, .non]) (.lst [A3, A4, A5, pd [97] [98], pd [97] [98]]) = some (.lst [A0, A1, A2, .non, .non, A3, A4, A5, pd [97] [98], pd [97] [98]]) := addL (by rw [hz]; simp)
  have ad2 : addD (.lst [A0, A1, A2, .non, .non, A3, A4, A5]) (.lst [pd [97] [98], pd [97] [98]]) = some (.lst [A0, A1, A2, .non, .non, A3, A4, A5, pd [97] [98], pd [97] [98]]) := addL (by rw [hz]; simp)
  simp [q1, q2, q3, q4, q5, q6, q7, q8, q9, q10, c0, c1, c2, c3, c4, c5, c6, c7, v1, v6, v7, v8, l0, l1, l2, l3, l4, l5, m1, eb, t0, t1, ad1, ad2, ne1, ne2, ne3, hz]
theorem rest13b {Fr Ft : Fsem} (er : Φ "row_of" = some Fr) (hr : RiOk Fr) (et : Φ "_law_told" = some Ft) (ht : ToOk Ft) {x0 x1 x2 x3 x4 x6 x7 : Option D} :
    exSs Φ Φf G fuel 0 (bRest13.drop 5) [x0, x1, x2, x3, x4, none, x6, x7] [] = .ret (.bl true) [] false := by
  have hz : szL = 16777216 := rfl
  have it : itD .rng [.int 3] = some (rngL 0 3) := it_rng1 rfl rfl
  have lp : ∃ y5 y7, loopN (exSs Φ Φf G fuel 0 lR13) (.one 5) (rngL 0 3) [x0, x1, x2, x3, x4, none, x6, x7] [] = .next [x0, x1, x2, x3, x4, y5, x6, y7] [] := by
    refine loop0 (I := fun i Γ S => S = [] ∧ ∃ y5 y7, Γ = [x0, x1, x2, x3, x4, y5, x6, y7]) (post := fun q => ∃ y5 y7, q = .next [x0, x1, x2, x3, x4, y5, x6, y7] []) ⟨rfl, none, x7, rfl⟩ ?_ ?_
    · rintro i x Γ S hx ⟨rfl, y5, y7, rfl⟩
      obtain ⟨hi, rfl⟩ := rngAt hx
      obtain ⟨z7, e⟩ := body13 (Φ := Φ) (Φf := Φf) (G := G) (fuel := fuel) (n0 := 0) (a0 := x0) (a1 := x1) (a2 := x2) (a3 := x3) (a4 := x4) (a6 := x6) (a7 := y7) (S := []) et ht er hr hi
      rw [Int.zero_add]
      exact ⟨_, rfl, .inl ⟨_, _, e, rfl, _, z7, rfl⟩⟩
    · rintro Γ S ⟨rfl, y5, y7, rfl⟩
      exact ⟨y5, y7, rfl⟩
  obtain ⟨y5, y7, lp⟩ := lp
  have w1 : Wd (List.replicate 59 97 ++ [98]) := wdA.mpr ⟨wd_repl (.inl rfl), fun c h => by simp at h; exact .inr h⟩
  have rp : Rp (List.replicate 59 97 ++ [98]) [97] := ⟨w1, wdB_ok rfl, by simp, by simp, by simp, by simp⟩
  obtain ⟨o, e, ho⟩ := hr _ _ [] rp
  rw [rowS_gre rp.wu rp.wv (gre_big 58) ho] at e
  have e : Fr [pd (List.replicate 59 97 ++ [98]) [97]] [] = .ok (rowT (bigG 58)) [] := e
  have m0 : mulD (.str [97]) (.int 59) = some (.str (List.replicate 59 97)) := by
    have := mul_str (u := [97]) (n := 59) (k := 59) rfl (by omega) (by omega) (by simp)
    rw [flat_one] at this
    exact this
  have a0 : addD (.str (List.replicate 59 97)) (.str [98]) = some (.str (List.replicate 59 97 ++ [98])) := add_str (by rw [hz, List.length_replicate]; simp)
  have m1 : mulD (rowT [.front, .swap]) (.int 58) = some (rowT (List.replicate 58 [Nm.front, .swap]).flatten) := mul_row (ns := [.front, .swap]) (k := 58) (by simp) (by simp) (by omega)
  have a1 : addD (rowT (List.replicate 58 [Nm.front, .swap]).flatten) (rowT [.front]) = some (rowT (bigG 58)) := by
    rw [add_row (by rw [List.length_flatten]; simp), bigG_eq]
  have ce := ceq_ok (okD_row (bigG 58) 0) (by omega)
  have c1 : ∀ Γ, ev Φ G (tC [.front, .swap]) Γ [] = .ok (rowT [.front, .swap]) [] := fun Γ => tC_ev (by simp)
  have c2 : ∀ Γ, ev Φ G (tC [.front]) Γ [] = .ok (rowT [.front]) [] := fun Γ => tC_ev (by simp)
  have vr : ∀ ns : List Nm, vw [] (rowT ns) = rowT ns := fun _ => rfl
  have v1 := vr [.front, .swap]
  have v2 := vr [.front]
  have v3 := vr (List.replicate 58 [Nm.front, .swap]).flatten
  have v4 := vr (bigG 58)
  show exSs Φ Φf G fuel 0 [.loop (.one 5) .rng [.con (.int 3)] lR13, .ret (.cmp .Eq (.call "row_of" [.tup [.bin .Add (.bin .Mult (.con (.str [97])) (.con (.int 59))) (.con (.str [98])), .con (.str [97])]]) (.bin .Add (.bin .Mult (tC [.front, .swap]) (.con (.int 58))) (tC [.front])))] _ _ = _
  clear hr ht ho rp w1 vr
  generalize List.replicate 59 97 ++ [98] = W at *
  generalize (List.replicate 59 97 : List Nat) = W0 at *
  generalize rowT (List.replicate 58 [Nm.front, .swap]).flatten = R1 at *
  generalize rowT (bigG 58) = R2 at *
  generalize rowT [.front, .swap] = R3 at *
  generalize rowT [.front] = R4 at *
  simp [it, lp, m0, a0, er, e, c1, c2, v1, v2, v3, v4, m1, a1, ce, hz]
theorem rest13 {Fr Fb Ft : Fsem} (er : Φ "row_of" = some Fr) (hr : RiOk Fr) (eb : Φ "told_by" = some Fb) (hb : TbOk Fb) (et : Φ "_law_told" = some Ft) (ht : ToOk Ft) {x0 x1 x2 x6 x7 : Option D} :
    exSs Φ Φf G fuel 0 bRest13 [x0, x1, x2, none, none, none, x6, x7] [] = .ret (.bl true) [] false := by
  have e : bRest13 = bRest13.take 5 ++ bRest13.drop 5 := (List.take_append_drop 5 bRest13).symm
  rw [e, exSs_app, rest13a er hr eb hb, then_next, rest13b er hr et ht]
def iLaw13 : CE := .bin .Add (.con (.int 6)) (.blt .min [.blt .len [.var 0], .con (.int 10)])
def pLaw13 : CS := .ite (.cmp .NotEq (.glob "PLAIN") (.tup [.con (.str [98, 97, 99, 107]), .con (.str [102, 114, 111, 110, 116]), .con (.str [115, 119, 97, 112])])) [.ret (.con (.bl false))] []
theorem p13 (g : G "PLAIN" = some plainD) {Γ : Gam} {S : Sto} {n0 : Nat} : exS Φ Φf G fuel n0 pLaw13 Γ S = .next Γ S := by
  have ne : cmpD .NotEq plainD (.tup [.str [98, 97, 99, 107], .str [102, 114, 111, 110, 116], .str [115, 119, 97, 112]]) = some (.bl false) := cne_ok (n := 1) (d := plainD) (by decide) (by omega)
  have v : vw S plainD = plainD := rfl
  simp [pLaw13, g, ne, v, szL]
theorem law13_gen {Fb : Fsem} {A : D} {es es' : List (Key × D)} {m : Nat} {y2 y6 y7 : Option D} (g : G "PLAIN" = some plainD) (pb : Φf "_law_begun" = some Fb) (hb : Fb [A] [] = .ok (.dic es) [])
    (hm : ev Φ G iLaw13 [some A, some (.loc 0), none, none, none, none, none, none] [.dic es] = .ok (.int m) [.dic es]) (hi : itD .rng [.int m] = some (rngL 0 m))
    (e : loopN (exSs Φ Φf G fuel 0 lL13) (.one 2) (rngL 0 m) [some A, some (.loc 0), none, none, none, none, none, none] [.dic es] = .next [some A, some (.loc 0), y2, none, none, none, y6, y7] [.dic es'])
    (tr : ∀ x0 x1 x2 x6 x7, exSs Φ Φf G fuel 0 bRest13 [x0, x1, x2, none, none, none, x6, x7] [] = .ret (.bl true) [] false) :
    fsem Φ Φf G fuel 1 8 (.own 1 (.call "_law_begun" [.var 0]) :: pLaw13 :: .loop (.one 2) .rng [iLaw13] lL13 :: .frz 1 :: bRest13) [A] [] = .ok (.bl true) [] := by
  have p := fun Γ S => p13 (Φ := Φ) (Φf := Φf) (G := G) (fuel := fuel) (n0 := 0) g (Γ := Γ) (S := S)
  simp [pb, hb, p, hm, hi, e, tr]
end
end EK

set_option Elab.async false
set_option linter.all false
set_option maxRecDepth 100000
set_option maxHeartbeats 4000000
namespace EK.K13
open PySem L2 PySem.Spec PyProof.Rows
def top (i : Nat) : Stmt := PySem.Challenge.pw_evenkept_k13_whole_rows.main.body.getD i (.Pass ⟨0, 0, 0, 0⟩)
def Gt : List (Str × D) := [("LETTERS", .str [97, 98]), ("MOST_SIZE", .int 60), ("SAME", .tup [.str [97], .str [98]]), ("BACK", .str [98, 97, 99, 107]), ("FRONT", .str [102, 114, 111, 110, 116]), ("SWAP", .str [115, 119, 97, 112]), ("PLAIN", .tup [.str [98, 97, 99, 107], .str [102, 114, 111, 110, 116], .str [115, 119, 97, 112]]), ("MEANT", .fn "MEANT"), ("MOST_NAMES", .int 400)]
def G : Str → Option D := fun x => Gt.lookup x
def Φ0 : Str → Option Fsem := fun _ => none
def N_is_name : List Str := ["thing"]
def P_is_name : List Str := ["thing"]
def b_is_name : List CS := [.ret (.and (.isi (.var 0) "str") (.cmp .In (.var 0) (.glob "PLAIN")))]
theorem c_is_name : chkSs N_is_name (defScope (top 25)) b_is_name (defBody (top 25)) = true := by decide +kernel
theorem sc_is_name : FnScope N_is_name P_is_name (defScope (top 25)) := ⟨rfl, rfl, rfl, by decide +kernel, rfl, by decide +kernel, by decide +kernel⟩
def F_is_name : Fsem := fsem Φ0 Φ0 G 1000000 1 1 b_is_name
def Φ_is_name : Str → Option Fsem := put Φ0 "is_name" F_is_name

def N_need_row : List Str := ["thing", "number", "name"]
def P_need_row : List Str := ["thing"]
def b_need_row : List CS := [.ite (.or (.not (.isi (.var 0) "tuple")) (.cmp .Gt (.blt .len [.var 0]) (.glob "MOST_NAMES"))) [.never] [],
  .loop (.many [1, 2]) .enm [.var 0] [.ite (.not (.call "is_name" [.var 2])) [.never] []],
  .ret (.var 0)]
theorem c_need_row : chkSs N_need_row (defScope (top 26)) b_need_row (defBody (top 26)) = true := by decide +kernel
theorem sc_need_row : FnScope N_need_row P_need_row (defScope (top 26)) := ⟨rfl, rfl, rfl, by decide +kernel, rfl, by decide +kernel, by decide +kernel⟩
def F_need_row : Fsem := fsem Φ_is_name Φ0 G 1000000 1 3 b_need_row
def Φ_need_row : Str → Option Fsem := put Φ_is_name "need_row" F_need_row

def N_image_in : List Str := ["replacement", "word", "letter"]
def P_image_in : List Str := ["replacement", "word"]
def b_image_in : List CS := [.ret (.mth .join (.con (.str [])) (.lc (.ite (.cmp .Eq (.var 2) (.con (.str [97]))) (.idx (.var 0) (.con (.int 0))) (.idx (.var 0) (.con (.int 1)))) (.one 2) .seq [.var 1] (.con (.bl true)) [("letter", 2)]))]
theorem c_image_in : chkSs N_image_in (defScope (top 16)) b_image_in (defBody (top 16)) = true := by decide +kernel
theorem sc_image_in : FnScope N_image_in P_image_in (defScope (top 16)) := ⟨rfl, rfl, rfl, by decide +kernel, rfl, by decide +kernel, by decide +kernel⟩
def F_image_in : Fsem := fsem Φ_need_row Φ0 G 1000000 2 3 b_image_in
def Φ_image_in : Str → Option Fsem := put Φ_need_row "image_in" F_image_in

def N_behind_in : List Str := ["replacement", "other", "found"]
def P_behind_in : List Str := ["replacement", "other"]
def b_behind_in : List CS := [.set (.one 2) (.tup [.call "image_in" [.var 0, .idx (.var 1) (.con (.int 0))], .call "image_in" [.var 0, .idx (.var 1) (.con (.int 1))]]),
  .ite (.cmp .Gt (.blt .max [.blt .len [.idx (.var 2) (.con (.int 0))], .blt .len [.idx (.var 2) (.con (.int 1))]]) (.glob "MOST_SIZE")) [.never] [],
  .ret (.var 2)]
theorem c_behind_in : chkSs N_behind_in (defScope (top 17)) b_behind_in (defBody (top 17)) = true := by decide +kernel
theorem sc_behind_in : FnScope N_behind_in P_behind_in (defScope (top 17)) := ⟨rfl, rfl, rfl, by decide +kernel, rfl, by decide +kernel, by decide +kernel⟩
def F_behind_in : Fsem := fsem Φ_image_in Φ0 G 1000000 2 3 b_behind_in
def Φ_behind_in : Str → Option Fsem := put Φ_image_in "behind_in" F_behind_in

def N_told_in : List Str := ["row", "found", "name"]
def P_told_in : List Str := ["row"]
def b_told_in : List CS := [.set (.one 1) (.glob "SAME"),
  .loop (.one 2) .seq [.rev (.var 0)] [.set (.one 1) (.call "behind_in" [.idx (.glob "MEANT") (.var 2), .var 1])],
  .ret (.var 1)]
theorem c_told_in : chkSs N_told_in (defScope (top 27)) b_told_in (defBody (top 27)) = true := by decide +kernel
theorem sc_told_in : FnScope N_told_in P_told_in (defScope (top 27)) := ⟨rfl, rfl, rfl, by decide +kernel, rfl, by decide +kernel, by decide +kernel⟩
def F_told_in : Fsem := fsem Φ_behind_in Φ0 G 1000000 1 3 b_told_in
def Φ_told_in : Str → Option Fsem := put Φ_behind_in "told_in" F_told_in

def N_told_by : List Str := ["row"]
def P_told_by : List Str := ["row"]
def b_told_by : List CS := [.ret (.call "told_in" [.call "need_row" [.var 0]])]
theorem c_told_by : chkSs N_told_by (defScope (top 28)) b_told_by (defBody (top 28)) = true := by decide +kernel
theorem sc_told_by : FnScope N_told_by P_told_by (defScope (top 28)) := ⟨rfl, rfl, rfl, by decide +kernel, rfl, by decide +kernel, by decide +kernel⟩
def F_told_by : Fsem := fsem Φ_told_in Φ0 G 1000000 1 1 b_told_by
def Φ_told_by : Str → Option Fsem := put Φ_told_in "told_by" F_told_by

def N_is_word : List Str := ["thing", "least", "most", "letter"]
def P_is_word : List Str := ["thing", "least", "most"]
def b_is_word : List CS := [.ret (.and (.isi (.var 0) "str") (.and (.chain .LtE .LtE (.var 1) (.blt .len [.var 0]) (.var 2)) (.blt .all [.lc (.cmp .In (.var 3) (.glob "LETTERS")) (.one 3) .seq [.var 0] (.con (.bl true)) [("letter", 3)]])))]
theorem c_is_word : chkSs N_is_word (defScope (top 7)) b_is_word (defBody (top 7)) = true := by decide +kernel
theorem sc_is_word : FnScope N_is_word P_is_word (defScope (top 7)) := ⟨rfl, rfl, rfl, by decide +kernel, rfl, by decide +kernel, by decide +kernel⟩
def F_is_word : Fsem := fsem Φ_told_by Φ0 G 1000000 3 4 b_is_word
def Φ_is_word : Str → Option Fsem := put Φ_told_by "is_word" F_is_word

def N_need_replacement : List Str := ["thing", "number", "word"]
def P_need_replacement : List Str := ["thing"]
def b_need_replacement : List CS := [.ite (.or (.not (.isi (.var 0) "tuple")) (.cmp .NotEq (.blt .len [.var 0]) (.con (.int 2)))) [.never] [],
  .loop (.many [1, 2]) .enm [.var 0] [.ite (.not (.call "is_word" [.var 2, .con (.int 1), .glob "MOST_SIZE"])) [.never] []],
  .ret (.var 0)]
theorem c_need_replacement : chkSs N_need_replacement (defScope (top 15)) b_need_replacement (defBody (top 15)) = true := by decide +kernel
theorem sc_need_replacement : FnScope N_need_replacement P_need_replacement (defScope (top 15)) := ⟨rfl, rfl, rfl, by decide +kernel, rfl, by decide +kernel, by decide +kernel⟩
def F_need_replacement : Fsem := fsem Φ_is_word Φ0 G 1000000 1 3 b_need_replacement
def Φ_need_replacement : Str → Option Fsem := put Φ_is_word "need_replacement" F_need_replacement

def N_swapped : List Str := ["word", "letter"]
def P_swapped : List Str := ["word"]
def b_swapped : List CS := [.ret (.mth .join (.con (.str [])) (.lc (.ite (.cmp .Eq (.var 1) (.con (.str [97]))) (.con (.str [98])) (.con (.str [97]))) (.one 1) .seq [.var 0] (.con (.bl true)) [("letter", 1)]))]
theorem c_swapped : chkSs N_swapped (defScope (top 29)) b_swapped (defBody (top 29)) = true := by decide +kernel
theorem sc_swapped : FnScope N_swapped P_swapped (defScope (top 29)) := ⟨rfl, rfl, rfl, by decide +kernel, rfl, by decide +kernel, by decide +kernel⟩
def F_swapped : Fsem := fsem Φ_need_replacement Φ0 G 1000000 1 2 b_swapped
def Φ_swapped : Str → Option Fsem := put Φ_need_replacement "swapped" F_swapped

def N_front_of : List Str := ["word", "found", "place", "letter"]
def P_front_of : List Str := ["word"]
def b_front_of : List CS := [.ite (.or (.cmp .Eq (.sl (.var 0) (.con .non) (.con (.int 1))) (.con (.str [98]))) (.cmp .In (.con (.str [98, 98])) (.var 0))) [.ret (.lst [])] [],
  .set (.one 1) (.con (.str [])),
  .loop (.many [2, 3]) .enm [.var 0] [.ite (.cmp .Eq (.var 3) (.con (.str [97]))) [.set (.one 1) (.bin .Add (.var 1) (.ite (.cmp .Eq (.sl (.var 0) (.bin .Add (.var 2) (.con (.int 1))) (.bin .Add (.var 2) (.con (.int 2)))) (.con (.str [98]))) (.con (.str [97])) (.con (.str [98]))))] []],
  .ret (.lst [.var 1])]
theorem c_front_of : chkSs N_front_of (defScope (top 30)) b_front_of (defBody (top 30)) = true := by decide +kernel
theorem sc_front_of : FnScope N_front_of P_front_of (defScope (top 30)) := ⟨rfl, rfl, rfl, by decide +kernel, rfl, by decide +kernel, by decide +kernel⟩
def F_front_of : Fsem := fsem Φ_swapped Φ0 G 1000000 1 4 b_front_of
def Φ_front_of : Str → Option Fsem := put Φ_swapped "front_of" F_front_of

def N_back_of : List Str := ["word", "one"]
def P_back_of : List Str := ["word"]
def b_back_of : List CS := [.ret (.lc (.rev (.var 1)) (.one 1) .seq [.call "front_of" [.rev (.var 0)]] (.con (.bl true)) [("one", 1)])]
theorem c_back_of : chkSs N_back_of (defScope (top 31)) b_back_of (defBody (top 31)) = true := by decide +kernel
theorem sc_back_of : FnScope N_back_of P_back_of (defScope (top 31)) := ⟨rfl, rfl, rfl, by decide +kernel, rfl, by decide +kernel, by decide +kernel⟩
def F_back_of : Fsem := fsem Φ_front_of Φ0 G 1000000 1 2 b_back_of
def Φ_back_of : Str → Option Fsem := put Φ_front_of "back_of" F_back_of

def N_led_by : List Str := ["replacement", "way", "found"]
def P_led_by : List Str := ["replacement", "way"]
def b_led_by : List CS := [.set (.one 2) (.bin .Add (.callv 1 [.idx (.var 0) (.con (.int 0))]) (.callv 1 [.idx (.var 0) (.con (.int 1))])),
  .ret (.ite (.cmp .Eq (.blt .len [.var 2]) (.con (.int 2))) (.blt .tuple [.var 2]) (.tup []))]
theorem c_led_by : chkSs N_led_by (defScope (top 32)) b_led_by (defBody (top 32)) = true := by decide +kernel
theorem sc_led_by : FnScope N_led_by P_led_by (defScope (top 32)) := ⟨rfl, rfl, rfl, by decide +kernel, rfl, by decide +kernel, by decide +kernel⟩
def F_led_by : Fsem := fsem Φ_back_of Φ0 G 1000000 2 3 b_led_by
def Φ_led_by : Str → Option Fsem := put Φ_back_of "led_by" F_led_by

def N_do_agree : List Str := ["replacement"]
def P_do_agree : List Str := ["replacement"]
def b_do_agree : List CS := [.ret (.cmp .Eq (.bin .Add (.idx (.var 0) (.con (.int 0))) (.idx (.var 0) (.con (.int 1)))) (.bin .Add (.idx (.var 0) (.con (.int 1))) (.idx (.var 0) (.con (.int 0)))))]
theorem c_do_agree : chkSs N_do_agree (defScope (top 33)) b_do_agree (defBody (top 33)) = true := by decide +kernel
theorem sc_do_agree : FnScope N_do_agree P_do_agree (defScope (top 33)) := ⟨rfl, rfl, rfl, by decide +kernel, rfl, by decide +kernel, by decide +kernel⟩
def F_do_agree : Fsem := fsem Φ_led_by Φ0 G 1000000 1 1 b_do_agree
def Φ_do_agree : Str → Option Fsem := put Φ_led_by "do_agree" F_do_agree

def N_row_in : List Str := ["replacement", "here", "found", "back", "front"]
def P_row_in : List Str := ["replacement"]
def b_row_in : List CS := [.ite (.call "do_agree" [.var 0]) [.ret (.con .non)] [],
  .par [1, 2] [.inl (.var 0), .inr (.lst [])],
  .while (.cmp .NotEq (.var 1) (.glob "SAME")) [.par [3, 4] [.inl (.call "led_by" [.var 1, .fnv "back_of"]), .inl (.call "led_by" [.var 1, .fnv "front_of"])],
  .ite (.cmp .NotEq (.var 3) (.tup [])) [.set (.one 1) (.var 3),
  .app 2 (.glob "BACK")] [.ite (.cmp .NotEq (.var 4) (.tup [])) [.set (.one 1) (.var 4),
  .app 2 (.glob "FRONT")] [.ite (.cmp .Eq (.sl (.var 2) (.neg (.con (.int 1))) (.con .non)) (.lst [.glob "SWAP"])) [.ret (.con .non)] [.set (.one 1) (.tup [.call "swapped" [.idx (.var 1) (.con (.int 0))], .call "swapped" [.idx (.var 1) (.con (.int 1))]]),
  .app 2 (.glob "SWAP")]]]],
  .frz 2,
  .ret (.blt .tuple [.var 2])]
theorem c_row_in : chkSs N_row_in (defScope (top 34)) b_row_in (defBody (top 34)) = true := by decide +kernel
theorem sc_row_in : FnScope N_row_in P_row_in (defScope (top 34)) := ⟨rfl, rfl, rfl, by decide +kernel, rfl, by decide +kernel, by decide +kernel⟩
def F_row_in : Fsem := fsem Φ_do_agree Φ0 G 1000000 1 5 b_row_in
def Φ_row_in : Str → Option Fsem := put Φ_do_agree "row_in" F_row_in

def N_row_of : List Str := ["replacement"]
def P_row_of : List Str := ["replacement"]
def b_row_of : List CS := [.ret (.call "row_in" [.call "need_replacement" [.var 0]])]
theorem c_row_of : chkSs N_row_of (defScope (top 35)) b_row_of (defBody (top 35)) = true := by decide +kernel
theorem sc_row_of : FnScope N_row_of P_row_of (defScope (top 35)) := ⟨rfl, rfl, rfl, by decide +kernel, rfl, by decide +kernel, by decide +kernel⟩
def F_row_of : Fsem := fsem Φ_row_in Φ0 G 1000000 1 1 b_row_of
def Φ_row_of : Str → Option Fsem := put Φ_row_in "row_of" F_row_of

def N__law_begun : List Str := ["_law_script", "_law_great", "_law_cell"]
def P__law_begun : List Str := ["_law_script"]
def b__law_begun : List CS := [.set (.one 1) (.lc (.var 2) (.one 2) .seq [.var 0] (.cmp .GtE (.var 2) (.bin .Pow (.con (.int 10)) (.con (.int 18)))) [("_law_cell", 2)]),
  .retF (.dic [.inr "cells", .inr "left", .inr "spot"] [.bin .Add (.blt .list [.var 0]) (.lst [.blt .len [.var 0]]), .ite (.cmp .NotEq (.var 1) (.lst [])) (.idx (.var 1) (.con (.int 0))) (.con (.int 0)), .con (.int 0)])]
theorem c__law_begun : chkSs N__law_begun (defScope (top 42)) b__law_begun (defBody (top 42)) = true := by decide +kernel
theorem sc__law_begun : FnScope N__law_begun P__law_begun (defScope (top 42)) := ⟨rfl, rfl, rfl, by decide +kernel, rfl, by decide +kernel, by decide +kernel⟩
def F__law_begun : Fsem := fsemF Φ_row_of Φ0 G 1000000 1 3 b__law_begun
def Φf__law_begun : Str → Option Fsem := put Φ0 "_law_begun" F__law_begun

def N__law_image : List Str := ["_law_pair_here", "_law_text", "_law_found", "_law_letter"]
def P__law_image : List Str := ["_law_pair_here", "_law_text"]
def b__law_image : List CS := [.set (.one 2) (.con (.str [])),
  .loop (.one 3) .seq [.var 1] [.set (.one 2) (.bin .Add (.var 2) (.idx (.var 0) (.blt .int [.cmp .Eq (.var 3) (.con (.str [98]))])))],
  .ret (.var 2)]
theorem c__law_image : chkSs N__law_image (defScope (top 49)) b__law_image (defBody (top 49)) = true := by decide +kernel
theorem sc__law_image : FnScope N__law_image P__law_image (defScope (top 49)) := ⟨rfl, rfl, rfl, by decide +kernel, rfl, by decide +kernel, by decide +kernel⟩
def F__law_image : Fsem := fsem Φ_row_of Φf__law_begun G 1000000 2 4 b__law_image
def Φ__law_image : Str → Option Fsem := put Φ_row_of "_law_image" F__law_image

def N__law_meant : List Str := ["_law_name"]
def P__law_meant : List Str := ["_law_name"]
def b__law_meant : List CS := [.ret (.idx (.dic [.inr "back", .inr "front", .inr "swap"] [.tup [.con (.str [98, 97]), .con (.str [97])], .tup [.con (.str [97, 98]), .con (.str [97])], .tup [.con (.str [98]), .con (.str [97])]]) (.var 0))]
theorem c__law_meant : chkSs N__law_meant (defScope (top 50)) b__law_meant (defBody (top 50)) = true := by decide +kernel
theorem sc__law_meant : FnScope N__law_meant P__law_meant (defScope (top 50)) := ⟨rfl, rfl, rfl, by decide +kernel, rfl, by decide +kernel, by decide +kernel⟩
def F__law_meant : Fsem := fsem Φ__law_image Φf__law_begun G 1000000 1 1 b__law_meant
def Φ__law_meant : Str → Option Fsem := put Φ__law_image "_law_meant" F__law_meant

def N__law_told : List Str := ["_law_names_here", "_law_found", "_law_name"]
def P__law_told : List Str := ["_law_names_here"]
def b__law_told : List CS := [.set (.one 1) (.tup [.con (.str [97]), .con (.str [98])]),
  .loop (.one 2) .seq [.rev (.var 0)] [.set (.one 1) (.tup [.call "_law_image" [.call "_law_meant" [.var 2], .idx (.var 1) (.con (.int 0))], .call "_law_image" [.call "_law_meant" [.var 2], .idx (.var 1) (.con (.int 1))]])],
  .ret (.var 1)]
theorem c__law_told : chkSs N__law_told (defScope (top 51)) b__law_told (defBody (top 51)) = true := by decide +kernel
theorem sc__law_told : FnScope N__law_told P__law_told (defScope (top 51)) := ⟨rfl, rfl, rfl, by decide +kernel, rfl, by decide +kernel, by decide +kernel⟩
def F__law_told : Fsem := fsem Φ__law_meant Φf__law_begun G 1000000 1 3 b__law_told
def Φ__law_told : Str → Option Fsem := put Φ__law_meant "_law_told" F__law_told

def N__law_draw : List Str := ["_law_m", "_law_limit", "_law_spot", "_law_cell", "_law_mixed", "_law_found"]
def P__law_draw : List Str := ["_law_m", "_law_limit"]
def b__law_draw : List CS := [.ite (.cmp .Gt (.idx (.var 0) (.con (.str [108, 101, 102, 116]))) (.con (.int 0))) [.set (.one 5) (.bin .Mod (.blt .int [.idx (.var 0) (.con (.str [108, 101, 102, 116]))]) (.var 1)),
  .putD 0 (.con (.str [108, 101, 102, 116])) (.bin .FloorDiv (.idx (.var 0) (.con (.str [108, 101, 102, 116]))) (.var 1)),
  .ret (.var 5)] [],
  .set (.one 2) (.bin .Add (.idx (.var 0) (.con (.str [115, 112, 111, 116]))) (.con (.int 1))),
  .putD 0 (.con (.str [115, 112, 111, 116])) (.var 2),
  .set (.one 3) (.idx (.idx (.var 0) (.con (.str [99, 101, 108, 108, 115]))) (.bin .Mod (.blt .int [.var 2]) (.blt .len [.idx (.var 0) (.con (.str [99, 101, 108, 108, 115]))]))),
  .set (.one 4) (.bin .Mult (.blt .int [.bin .Add (.bin .Add (.bin .Mod (.blt .int [.var 3]) (.con (.int 2147483629))) (.bin .Mult (.con (.int 6133)) (.var 2))) (.bin .Mult (.bin .Mult (.con (.int 23)) (.var 2)) (.var 2))]) (.con (.int 48271))),
  .set (.one 4) (.bin .Mult (.blt .int [.bin .Add (.bin .Mod (.blt .int [.var 4]) (.con (.int 2147483647))) (.bin .Mult (.con (.int 93241)) (.var 2))]) (.con (.int 69621))),
  .ret (.bin .Mod (.blt .int [.bin .FloorDiv (.bin .Mod (.blt .int [.var 4]) (.con (.int 2147483587))) (.con (.int 13))]) (.var 1))]
theorem c__law_draw : chkSs N__law_draw (defScope (top 43)) b__law_draw (defBody (top 43)) = true := by decide +kernel
theorem sc__law_draw : FnScope N__law_draw P__law_draw (defScope (top 43)) := ⟨rfl, rfl, rfl, by decide +kernel, rfl, by decide +kernel, by decide +kernel⟩
def F__law_draw : Fsem := fsem Φ__law_told Φf__law_begun G 1000000 2 6 b__law_draw
def Φ__law_draw : Str → Option Fsem := put Φ__law_told "_law_draw" F__law_draw

def N__law_of : List Str := ["_law_m", "_law_some"]
def P__law_of : List Str := ["_law_m", "_law_some"]
def b__law_of : List CS := [.ret (.idx (.var 1) (.call "_law_draw" [.var 0, .blt .len [.var 1]]))]
theorem c__law_of : chkSs N__law_of (defScope (top 44)) b__law_of (defBody (top 44)) = true := by decide +kernel
theorem sc__law_of : FnScope N__law_of P__law_of (defScope (top 44)) := ⟨rfl, rfl, rfl, by decide +kernel, rfl, by decide +kernel, by decide +kernel⟩
def F__law_of : Fsem := fsem Φ__law_draw Φf__law_begun G 1000000 2 2 b__law_of
def Φ__law_of : Str → Option Fsem := put Φ__law_draw "_law_of" F__law_of

def N__law_names : List Str := ["_law_m", "_law_most", "_law_names_here", "_law_k", "_law_more", "_law_told_here"]
def P__law_names : List Str := ["_law_m", "_law_most"]
def b__law_names : List CS := [.set (.one 2) (.tup []),
  .loop (.one 3) .rng [.call "_law_draw" [.var 0, .bin .Add (.var 1) (.con (.int 1))]] [.set (.one 4) (.bin .Add (.var 2) (.tup [.call "_law_of" [.var 0, .lst [.con (.str [98, 97, 99, 107]), .con (.str [102, 114, 111, 110, 116]), .con (.str [115, 119, 97, 112])]]])),
  .set (.one 5) (.call "_law_told" [.var 4]),
  .ite (.cmp .LtE (.blt .max [.blt .len [.idx (.var 5) (.con (.int 0))], .blt .len [.idx (.var 5) (.con (.int 1))]]) (.con (.int 60))) [.set (.one 2) (.var 4)] []],
  .ret (.var 2)]
theorem c__law_names : chkSs N__law_names (defScope (top 52)) b__law_names (defBody (top 52)) = true := by decide +kernel
theorem sc__law_names : FnScope N__law_names P__law_names (defScope (top 52)) := ⟨rfl, rfl, rfl, by decide +kernel, rfl, by decide +kernel, by decide +kernel⟩
def F__law_names : Fsem := fsem Φ__law_of Φf__law_begun G 1000000 2 6 b__law_names
def Φ__law_names : Str → Option Fsem := put Φ__law_of "_law_names" F__law_names

def N__law_letters : List Str := ["_law_m", "_law_size", "_law_k"]
def P__law_letters : List Str := ["_law_m", "_law_size"]
def b__law_letters : List CS := [.ret (.mth .join (.con (.str [])) (.lc (.call "_law_of" [.var 0, .con (.str [97, 98])]) (.one 2) .rng [.var 1] (.con (.bl true)) [("_law_k", 2)]))]
theorem c__law_letters : chkSs N__law_letters (defScope (top 45)) b__law_letters (defBody (top 45)) = true := by decide +kernel
theorem sc__law_letters : FnScope N__law_letters P__law_letters (defScope (top 45)) := ⟨rfl, rfl, rfl, by decide +kernel, rfl, by decide +kernel, by decide +kernel⟩
def F__law_letters : Fsem := fsem Φ__law_names Φf__law_begun G 1000000 2 3 b__law_letters
def Φ__law_letters : Str → Option Fsem := put Φ__law_names "_law_letters" F__law_letters

def N__law_line : List Str := ["_law_part", "_law_base", "_law_start", "_law_size", "_law_steps", "_law_k", "_law_near", "_law_far"]
def P__law_line : List Str := ["_law_part", "_law_base", "_law_start", "_law_size"]
def b__law_line : List CS := [.set (.one 4) (.lc (.bin .FloorDiv (.bin .Add (.bin .Mult (.var 0) (.var 5)) (.var 2)) (.var 1)) (.one 5) .rng [.bin .Add (.var 3) (.con (.int 1))] (.con (.bl true)) [("_law_k", 5)]),
  .ret (.mth .join (.con (.str [])) (.lc (.ite (.cmp .Gt (.var 7) (.var 6)) (.con (.str [98])) (.con (.str [97]))) (.many [6, 7]) .zip [.var 4, .sl (.var 4) (.con (.int 1)) (.con .non)] (.con (.bl true)) [("_law_near", 6), ("_law_far", 7)]))]
theorem c__law_line : chkSs N__law_line (defScope (top 46)) b__law_line (defBody (top 46)) = true := by decide +kernel
theorem sc__law_line : FnScope N__law_line P__law_line (defScope (top 46)) := ⟨rfl, rfl, rfl, by decide +kernel, rfl, by decide +kernel, by decide +kernel⟩
def F__law_line : Fsem := fsem Φ__law_letters Φf__law_begun G 1000000 4 8 b__law_line
def Φ__law_line : Str → Option Fsem := put Φ__law_letters "_law_line" F__law_line

def N__law_even_text : List Str := ["_law_m", "_law_size", "_law_base"]
def P__law_even_text : List Str := ["_law_m", "_law_size"]
def b__law_even_text : List CS := [.set (.one 2) (.bin .Add (.con (.int 1)) (.call "_law_draw" [.var 0, .con (.int 12)])),
  .ret (.call "_law_line" [.call "_law_draw" [.var 0, .bin .Add (.var 2) (.con (.int 1))], .var 2, .call "_law_draw" [.var 0, .var 2], .var 1])]
theorem c__law_even_text : chkSs N__law_even_text (defScope (top 47)) b__law_even_text (defBody (top 47)) = true := by decide +kernel
theorem sc__law_even_text : FnScope N__law_even_text P__law_even_text (defScope (top 47)) := ⟨rfl, rfl, rfl, by decide +kernel, rfl, by decide +kernel, by decide +kernel⟩
def F__law_even_text : Fsem := fsem Φ__law_line Φf__law_begun G 1000000 2 3 b__law_even_text
def Φ__law_even_text : Str → Option Fsem := put Φ__law_line "_law_even_text" F__law_even_text

def N__law_near_text : List Str := ["_law_m", "_law_size", "_law_text", "_law_k", "_law_spot"]
def P__law_near_text : List Str := ["_law_m", "_law_size"]
def b__law_near_text : List CS := [.set (.one 2) (.call "_law_even_text" [.var 0, .var 1]),
  .loop (.one 3) .rng [.call "_law_of" [.var 0, .lst [.con (.int 0), .con (.int 0), .con (.int 1), .con (.int 2)]]] [.set (.one 4) (.call "_law_draw" [.var 0, .bin .Add (.var 1) (.con (.int 1))]),
  .set (.one 2) (.bin .Add (.bin .Add (.sl (.var 2) (.con .non) (.var 4)) (.call "_law_of" [.var 0, .lst [.con (.str [97]), .con (.str [98]), .con (.str [])]])) (.sl (.var 2) (.bin .Add (.var 4) (.con (.int 1))) (.con .non)))],
  .ret (.ite (.cmp .Gt (.call "_law_draw" [.var 0, .con (.int 4)]) (.con (.int 0))) (.var 2) (.call "_law_letters" [.var 0, .var 1]))]
theorem c__law_near_text : chkSs N__law_near_text (defScope (top 48)) b__law_near_text (defBody (top 48)) = true := by decide +kernel
theorem sc__law_near_text : FnScope N__law_near_text P__law_near_text (defScope (top 48)) := ⟨rfl, rfl, rfl, by decide +kernel, rfl, by decide +kernel, by decide +kernel⟩
def F__law_near_text : Fsem := fsem Φ__law_even_text Φf__law_begun G 1000000 2 5 b__law_near_text
def Φ__law_near_text : Str → Option Fsem := put Φ__law_even_text "_law_near_text" F__law_near_text

def N__law_pair : List Str := ["_law_m", "_law_most", "_law_way", "_law_found", "_law_root", "_law_bent", "_law_side", "_law_spot"]
def P__law_pair : List Str := ["_law_m", "_law_most"]
def b__law_pair : List CS := [.set (.one 2) (.call "_law_draw" [.var 0, .con (.int 6)]),
  .ite (.cmp .Lt (.var 2) (.con (.int 3))) [.set (.one 3) (.call "_law_told" [.call "_law_names" [.var 0, .var 1]]),
  .ite (.cmp .Eq (.var 2) (.con (.int 2))) [.par [6, 7] [.inl (.call "_law_draw" [.var 0, .con (.int 2)]), .inl (.call "_law_draw" [.var 0, .con (.int 8)])],
  .set (.one 5) (.bin .Add (.bin .Add (.sl (.idx (.var 3) (.var 6)) (.con .non) (.var 7)) (.call "_law_of" [.var 0, .lst [.con (.str [97]), .con (.str [98]), .con (.str [])]])) (.sl (.idx (.var 3) (.var 6)) (.bin .Add (.var 7) (.con (.int 1))) (.con .non))),
  .set (.one 3) (.ite (.cmp .Eq (.var 6) (.con (.int 1))) (.tup [.idx (.var 3) (.con (.int 0)), .var 5]) (.tup [.var 5, .idx (.var 3) (.con (.int 1))]))] [],
  .ret (.ite (.and (.cmp .NotEq (.idx (.var 3) (.con (.int 0))) (.con (.str []))) (.cmp .NotEq (.idx (.var 3) (.con (.int 1))) (.con (.str [])))) (.var 3) (.tup [.con (.str [97, 98]), .con (.str [97])]))] [],
  .ite (.cmp .Eq (.var 2) (.con (.int 3))) [.set (.one 4) (.bin .Add (.call "_law_near_text" [.var 0, .bin .Add (.con (.int 1)) (.call "_law_draw" [.var 0, .con (.int 5)])]) (.con (.str [97]))),
  .ret (.tup [.bin .Mult (.var 4) (.bin .Add (.con (.int 1)) (.call "_law_draw" [.var 0, .con (.int 3)])), .bin .Mult (.var 4) (.bin .Add (.con (.int 1)) (.call "_law_draw" [.var 0, .con (.int 3)]))])] [],
  .ite (.cmp .Eq (.var 2) (.con (.int 4))) [.ret (.tup [.bin .Add (.call "_law_near_text" [.var 0, .bin .Add (.con (.int 1)) (.call "_law_draw" [.var 0, .con (.int 6)])]) (.con (.str [98])), .bin .Add (.call "_law_near_text" [.var 0, .bin .Add (.con (.int 1)) (.call "_law_draw" [.var 0, .con (.int 6)])]) (.con (.str [97]))])] [],
  .ret (.tup [.call "_law_letters" [.var 0, .bin .Add (.con (.int 1)) (.call "_law_draw" [.var 0, .con (.int 5)])], .call "_law_letters" [.var 0, .bin .Add (.con (.int 1)) (.call "_law_draw" [.var 0, .con (.int 5)])]])]
theorem c__law_pair : chkSs N__law_pair (defScope (top 53)) b__law_pair (defBody (top 53)) = true := by decide +kernel
theorem sc__law_pair : FnScope N__law_pair P__law_pair (defScope (top 53)) := ⟨rfl, rfl, rfl, by decide +kernel, rfl, by decide +kernel, by decide +kernel⟩
def F__law_pair : Fsem := fsem Φ__law_near_text Φf__law_begun G 1000000 2 8 b__law_pair
def Φ__law_pair : Str → Option Fsem := put Φ__law_near_text "_law_pair" F__law_pair

def N__law_row_right : List Str := ["_law_pair_here", "_law_known", "_law_told_here", "_law_spot", "_law_name", "_law_rest", "_law_near", "_law_far", "_law_one"]
def P__law_row_right : List Str := ["_law_pair_here", "_law_known"]
def b__law_row_right : List CS := [.set (.one 2) (.call "row_of" [.var 0]),
  .ite (.or (.cmp .NotEq (.call "row_of" [.var 0]) (.var 2)) (.or (.cmp .Is (.var 2) (.con .non)) (.or (.cmp .NotEq (.call "_law_told" [.var 2]) (.var 0)) (.cmp .Gt (.blt .len [.var 2]) (.blt .len [.var 1]))))) [.ret (.con (.bl false))] [],
  .loop (.many [3, 4]) .enm [.var 2] [.set (.one 5) (.call "_law_told" [.sl (.var 2) (.var 3) (.con .non)]),
  .ite (.and (.cmp .Eq (.var 4) (.con (.str [102, 114, 111, 110, 116]))) (.cmp .Eq (.lc (.var 8) (.one 8) .seq [.var 5] (.or (.cmp .In (.con (.str [98, 98])) (.var 8)) (.cmp .Eq (.idx (.var 8) (.neg (.con (.int 1)))) (.con (.str [98])))) [("_law_one", 8)]) (.lst []))) [.ret (.con (.bl false))] []],
  .ret (.cmp .Eq (.lc (.con (.int 1)) (.many [6, 7]) .zip [.var 2, .sl (.var 2) (.con (.int 1)) (.con .non)] (.and (.cmp .Eq (.var 6) (.con (.str [115, 119, 97, 112]))) (.cmp .Eq (.var 7) (.con (.str [115, 119, 97, 112])))) [("_law_near", 6), ("_law_far", 7)]) (.lst []))]
theorem c__law_row_right : chkSs N__law_row_right (defScope (top 55)) b__law_row_right (defBody (top 55)) = true := by decide +kernel
theorem sc__law_row_right : FnScope N__law_row_right P__law_row_right (defScope (top 55)) := ⟨rfl, rfl, rfl, by decide +kernel, rfl, by decide +kernel, by decide +kernel⟩
def F__law_row_right : Fsem := fsem Φ__law_pair Φf__law_begun G 1000000 2 9 b__law_row_right
def Φ__law_row_right : Str → Option Fsem := put Φ__law_pair "_law_row_right" F__law_row_right

def N_heights_of : List Str := ["word", "found", "letter"]
def P_heights_of : List Str := ["word"]
def b_heights_of : List CS := [.own 1 (.lst [.con (.int 0)]),
  .loop (.one 2) .seq [.var 0] [.app 1 (.bin .Add (.idx (.var 1) (.neg (.con (.int 1)))) (.blt .int [.cmp .Eq (.var 2) (.con (.str [98]))]))],
  .frz 1,
  .ret (.var 1)]
theorem c_heights_of : chkSs N_heights_of (defScope (top 8)) b_heights_of (defBody (top 8)) = true := by decide +kernel
theorem sc_heights_of : FnScope N_heights_of P_heights_of (defScope (top 8)) := ⟨rfl, rfl, rfl, by decide +kernel, rfl, by decide +kernel, by decide +kernel⟩
def F_heights_of : Fsem := fsem Φ__law_row_right Φf__law_begun G 1000000 1 3 b_heights_of
def Φ_heights_of : Str → Option Fsem := put Φ__law_row_right "heights_of" F_heights_of

def N_bounds_at : List Str := ["heights", "size", "some", "place"]
def P_bounds_at : List Str := ["heights", "size"]
def b_bounds_at : List CS := [.set (.one 2) (.lc (.bin .Sub (.idx (.var 0) (.bin .Add (.var 3) (.var 1))) (.idx (.var 0) (.var 3))) (.one 3) .rng [.bin .Sub (.blt .len [.var 0]) (.var 1)] (.con (.bl true)) [("place", 3)]),
  .ret (.tup [.mth .index (.var 2) (.blt .min [.var 2]), .mth .index (.var 2) (.blt .max [.var 2])])]
theorem c_bounds_at : chkSs N_bounds_at (defScope (top 9)) b_bounds_at (defBody (top 9)) = true := by decide +kernel
theorem sc_bounds_at : FnScope N_bounds_at P_bounds_at (defScope (top 9)) := ⟨rfl, rfl, rfl, by decide +kernel, rfl, by decide +kernel, by decide +kernel⟩
def F_bounds_at : Fsem := fsem Φ_heights_of Φf__law_begun G 1000000 2 4 b_bounds_at
def Φ_bounds_at : Str → Option Fsem := put Φ_heights_of "bounds_at" F_bounds_at

def N_first_uneven : List Str := ["word", "heights", "size", "low", "high"]
def P_first_uneven : List Str := ["word"]
def b_first_uneven : List CS := [.set (.one 1) (.call "heights_of" [.var 0]),
  .loop (.one 2) .rng [.con (.int 2), .blt .len [.var 0]] [.set (.many [3, 4]) (.call "bounds_at" [.var 1, .var 2]),
  .ite (.cmp .Gt (.bin .Sub (.bin .Sub (.idx (.var 1) (.bin .Add (.var 4) (.var 2))) (.idx (.var 1) (.var 4))) (.bin .Sub (.idx (.var 1) (.bin .Add (.var 3) (.var 2))) (.idx (.var 1) (.var 3)))) (.con (.int 1))) [.ret (.lst [.tup [.var 3, .var 4, .var 2]])] []],
  .ret (.lst [])]
theorem c_first_uneven : chkSs N_first_uneven (defScope (top 10)) b_first_uneven (defBody (top 10)) = true := by decide +kernel
theorem sc_first_uneven : FnScope N_first_uneven P_first_uneven (defScope (top 10)) := ⟨rfl, rfl, rfl, by decide +kernel, rfl, by decide +kernel, by decide +kernel⟩
def F_first_uneven : Fsem := fsem Φ_bounds_at Φf__law_begun G 1000000 1 5 b_first_uneven
def Φ_first_uneven : Str → Option Fsem := put Φ_bounds_at "first_uneven" F_first_uneven

def N_is_even_in : List Str := ["word"]
def P_is_even_in : List Str := ["word"]
def b_is_even_in : List CS := [.ret (.cmp .Eq (.call "first_uneven" [.var 0]) (.lst []))]
theorem c_is_even_in : chkSs N_is_even_in (defScope (top 11)) b_is_even_in (defBody (top 11)) = true := by decide +kernel
theorem sc_is_even_in : FnScope N_is_even_in P_is_even_in (defScope (top 11)) := ⟨rfl, rfl, rfl, by decide +kernel, rfl, by decide +kernel, by decide +kernel⟩
def F_is_even_in : Fsem := fsem Φ_first_uneven Φf__law_begun G 1000000 1 1 b_is_even_in
def Φ_is_even_in : Str → Option Fsem := put Φ_first_uneven "is_even_in" F_is_even_in

def N_root_of : List Str := ["word", "size"]
def P_root_of : List Str := ["word"]
def b_root_of : List CS := [.loop (.one 1) .rng [.con (.int 1), .bin .Add (.blt .len [.var 0]) (.con (.int 1))] [.ite (.and (.cmp .Eq (.bin .Mod (.blt .int [.blt .len [.var 0]]) (.var 1)) (.con (.int 0))) (.cmp .Eq (.bin .Mult (.sl (.var 0) (.con .non) (.var 1)) (.bin .FloorDiv (.blt .len [.var 0]) (.var 1))) (.var 0))) [.ret (.sl (.var 0) (.con .non) (.var 1))] []],
  .ret (.var 0)]
theorem c_root_of : chkSs N_root_of (defScope (top 37)) b_root_of (defBody (top 37)) = true := by decide +kernel
theorem sc_root_of : FnScope N_root_of P_root_of (defScope (top 37)) := ⟨rfl, rfl, rfl, by decide +kernel, rfl, by decide +kernel, by decide +kernel⟩
def F_root_of : Fsem := fsem Φ_is_even_in Φf__law_begun G 1000000 1 2 b_root_of
def Φ_root_of : Str → Option Fsem := put Φ_is_even_in "root_of" F_root_of

def N_powers_in : List Str := ["replacement"]
def P_powers_in : List Str := ["replacement"]
def b_powers_in : List CS := [.ret (.ite (.call "do_agree" [.var 0]) (.lst [.call "root_of" [.bin .Add (.idx (.var 0) (.con (.int 0))) (.idx (.var 0) (.con (.int 1)))]]) (.lst []))]
theorem c_powers_in : chkSs N_powers_in (defScope (top 38)) b_powers_in (defBody (top 38)) = true := by decide +kernel
theorem sc_powers_in : FnScope N_powers_in P_powers_in (defScope (top 38)) := ⟨rfl, rfl, rfl, by decide +kernel, rfl, by decide +kernel, by decide +kernel⟩
def F_powers_in : Fsem := fsem Φ_root_of Φf__law_begun G 1000000 1 1 b_powers_in
def Φ_powers_in : Str → Option Fsem := put Φ_root_of "powers_in" F_powers_in

def N_keeps_in : List Str := ["replacement", "root"]
def P_keeps_in : List Str := ["replacement"]
def b_keeps_in : List CS := [.loop (.one 1) .seq [.call "powers_in" [.var 0]] [.ret (.call "is_even_in" [.bin .Add (.var 1) (.var 1)])],
  .ret (.cmp .IsNot (.call "row_in" [.var 0]) (.con .non))]
theorem c_keeps_in : chkSs N_keeps_in (defScope (top 39)) b_keeps_in (defBody (top 39)) = true := by decide +kernel
theorem sc_keeps_in : FnScope N_keeps_in P_keeps_in (defScope (top 39)) := ⟨rfl, rfl, rfl, by decide +kernel, rfl, by decide +kernel, by decide +kernel⟩
def F_keeps_in : Fsem := fsem Φ_powers_in Φf__law_begun G 1000000 1 2 b_keeps_in
def Φ_keeps_in : Str → Option Fsem := put Φ_powers_in "keeps_in" F_keeps_in

def N_keeps : List Str := ["replacement"]
def P_keeps : List Str := ["replacement"]
def b_keeps : List CS := [.ret (.call "keeps_in" [.call "need_replacement" [.var 0]])]
theorem c_keeps : chkSs N_keeps (defScope (top 40)) b_keeps (defBody (top 40)) = true := by decide +kernel
theorem sc_keeps : FnScope N_keeps P_keeps (defScope (top 40)) := ⟨rfl, rfl, rfl, by decide +kernel, rfl, by decide +kernel, by decide +kernel⟩
def F_keeps : Fsem := fsem Φ_keeps_in Φf__law_begun G 1000000 1 1 b_keeps
def Φ_keeps : Str → Option Fsem := put Φ_keeps_in "keeps" F_keeps

def N__law_first_row : List Str := ["_law_pair_here", "_law_rows", "_law_many", "_law_names_here", "_law_longer", "_law_name"]
def P__law_first_row : List Str := ["_law_pair_here"]
def b__law_first_row : List CS := [.set (.one 1) (.lst [.tup []]),
  .loop (.one 2) .rng [.con (.int 6)] [.loop (.one 3) .seq [.var 1] [.ite (.cmp .Eq (.call "_law_told" [.var 3]) (.var 0)) [.ret (.lst [.var 3])] []],
  .set (.one 4) (.lst []),
  .loop (.one 3) .seq [.var 1] [.set (.one 4) (.bin .Add (.var 4) (.lc (.bin .Add (.var 3) (.tup [.var 5])) (.one 5) .seq [.tup [.con (.str [98, 97, 99, 107]), .con (.str [102, 114, 111, 110, 116]), .con (.str [115, 119, 97, 112])]] (.con (.bl true)) [("_law_name", 5)]))],
  .set (.one 1) (.var 4)],
  .ret (.lst [])]
theorem c__law_first_row : chkSs N__law_first_row (defScope (top 54)) b__law_first_row (defBody (top 54)) = true := by decide +kernel
theorem sc__law_first_row : FnScope N__law_first_row P__law_first_row (defScope (top 54)) := ⟨rfl, rfl, rfl, by decide +kernel, rfl, by decide +kernel, by decide +kernel⟩
def F__law_first_row : Fsem := fsem Φ_keeps Φf__law_begun G 1000000 1 6 b__law_first_row
def Φ__law_first_row : Str → Option Fsem := put Φ_keeps "_law_first_row" F__law_first_row

def N__law_right : List Str := ["_law_m", "_law_pair_here", "_law_told_here", "_law_first"]
def P__law_right : List Str := ["_law_m", "_law_pair_here"]
def b__law_right : List CS := [.set (.one 2) (.call "row_of" [.var 1]),
  .ite (.cmp .NotEq (.cmp .IsNot (.var 2) (.con .non)) (.and (.call "keeps" [.var 1]) (.cmp .NotEq (.bin .Add (.idx (.var 1) (.con (.int 0))) (.idx (.var 1) (.con (.int 1)))) (.bin .Add (.idx (.var 1) (.con (.int 1))) (.idx (.var 1) (.con (.int 0))))))) [.ret (.con (.bl false))] [],
  .ite (.or (.cmp .Gt (.bin .Add (.blt .len [.idx (.var 1) (.con (.int 0))]) (.blt .len [.idx (.var 1) (.con (.int 1))])) (.con (.int 7))) (.cmp .Is (.var 2) (.con .non))) [.ret (.con (.bl true))] [],
  .set (.one 3) (.call "_law_first_row" [.var 1]),
  .ret (.or (.and (.cmp .Eq (.var 3) (.lst [])) (.cmp .Gt (.blt .len [.var 2]) (.con (.int 5)))) (.cmp .Eq (.var 3) (.lst [.var 2])))]
theorem c__law_right : chkSs N__law_right (defScope (top 56)) b__law_right (defBody (top 56)) = true := by decide +kernel
theorem sc__law_right : FnScope N__law_right P__law_right (defScope (top 56)) := ⟨rfl, rfl, rfl, by decide +kernel, rfl, by decide +kernel, by decide +kernel⟩
def F__law_right : Fsem := fsem Φ__law_first_row Φf__law_begun G 1000000 2 4 b__law_right
def Φ__law_right : Str → Option Fsem := put Φ__law_first_row "_law_right" F__law_right

def N_law : List Str := ["_law_script", "_law_m", "_law_lap", "_law_heard", "_law_due", "_law_times", "_law_names_here", "_law_pair_here"]
def P_law : List Str := ["_law_script"]
def b_law : List CS := [.own 1 (.call "_law_begun" [.var 0]),
  .ite (.cmp .NotEq (.glob "PLAIN") (.tup [.con (.str [98, 97, 99, 107]), .con (.str [102, 114, 111, 110, 116]), .con (.str [115, 119, 97, 112])])) [.ret (.con (.bl false))] [],
  .loop (.one 2) .rng [.bin .Add (.con (.int 6)) (.blt .min [.blt .len [.var 0], .con (.int 10)])] [.set (.one 6) (.call "_law_names" [.var 1, .con (.int 12)]),
  .set (.one 7) (.call "_law_told" [.var 6]),
  .ite (.or (.cmp .NotEq (.call "told_by" [.var 6]) (.var 7)) (.or (.cmp .NotEq (.callk "told_by" [.var 6]) (.var 7)) (.not (.call "_law_row_right" [.var 7, .var 6])))) [.ret (.con (.bl false))] [],
  .ite (.and (.cmp .Lt (.var 2) (.con (.int 4))) (.not (.call "_law_right" [.var 1, .call "_law_pair" [.var 1, .con (.int 3)]]))) [.ret (.con (.bl false))] []],
  .frz 1,
  .set (.one 3) (.lst [.call "row_of" [.tup [.con (.str [97]), .con (.str [98])]], .call "row_of" [.tup [.con (.str [98]), .con (.str [97])]], .call "row_of" [.tup [.con (.str [97]), .con (.str [98, 97])]], .call "row_of" [.tup [.con (.str [97, 97]), .con (.str [97])]], .call "row_of" [.tup [.con (.str [97, 98]), .con (.str [98, 97])]]]),
  .set (.one 3) (.bin .Add (.var 3) (.lst [.call "row_of" [.tup [.con (.str [97, 98, 97]), .con (.str [97, 98])]], .call "row_of" [.tup [.con (.str [98, 97, 97]), .con (.str [98, 97])]], .call "row_of" [.tup [.con (.str [97, 97, 98]), .con (.str [97, 98])]], .call "told_by" [.tup []], .call "told_by" [.bin .Mult (.tup [.con (.str [115, 119, 97, 112])]) (.con (.int 400))]])),
  .set (.one 4) (.lst [.tup [], .tup [.con (.str [115, 119, 97, 112])], .tup [.con (.str [98, 97, 99, 107]), .con (.str [115, 119, 97, 112])], .con .non, .con .non, .tup [.con (.str [102, 114, 111, 110, 116]), .con (.str [102, 114, 111, 110, 116])], .tup [.con (.str [98, 97, 99, 107]), .con (.str [102, 114, 111, 110, 116])], .tup [.con (.str [102, 114, 111, 110, 116]), .con (.str [98, 97, 99, 107])]]),
  .ite (.or (.cmp .NotEq (.var 3) (.bin .Add (.var 4) (.lst [.tup [.con (.str [97]), .con (.str [98])], .tup [.con (.str [97]), .con (.str [98])]]))) (.cmp .NotEq (.call "row_of" [.tup [.con (.str [97, 98, 97]), .con (.str [97])]]) (.tup [.con (.str [98, 97, 99, 107]), .con (.str [115, 119, 97, 112]), .con (.str [102, 114, 111, 110, 116])]))) [.ret (.con (.bl false))] [],
  .ite (.cmp .NotEq (.call "row_of" [.tup [.con (.str [97, 98, 97, 98, 97]), .con (.str [97, 98, 97])]]) (.tup [.con (.str [98, 97, 99, 107]), .con (.str [98, 97, 99, 107]), .con (.str [102, 114, 111, 110, 116])])) [.ret (.con (.bl false))] [],
  .loop (.one 5) .rng [.con (.int 3)] [.set (.one 7) (.call "_law_told" [.bin .Add (.bin .Add (.tup [.con (.str [102, 114, 111, 110, 116]), .con (.str [102, 114, 111, 110, 116])]) (.bin .Mult (.tup [.con (.str [115, 119, 97, 112]), .con (.str [102, 114, 111, 110, 116])]) (.var 5))) (.tup [.con (.str [98, 97, 99, 107])])]),
  .ite (.cmp .NotEq (.call "row_of" [.var 7]) (.bin .Add (.bin .Add (.tup [.con (.str [98, 97, 99, 107]), .con (.str [98, 97, 99, 107])]) (.bin .Mult (.tup [.con (.str [115, 119, 97, 112]), .con (.str [98, 97, 99, 107])]) (.var 5))) (.tup [.con (.str [102, 114, 111, 110, 116])]))) [.ret (.con (.bl false))] []],
  .ret (.cmp .Eq (.call "row_of" [.tup [.bin .Add (.bin .Mult (.con (.str [97])) (.con (.int 59))) (.con (.str [98])), .con (.str [97])]]) (.bin .Add (.bin .Mult (.tup [.con (.str [102, 114, 111, 110, 116]), .con (.str [115, 119, 97, 112])]) (.con (.int 58))) (.tup [.con (.str [102, 114, 111, 110, 116])])))]
theorem c_law : chkSs N_law (defScope (top 57)) b_law (defBody (top 57)) = true := by decide +kernel
theorem sc_law : FnScope N_law P_law (defScope (top 57)) := ⟨rfl, rfl, rfl, by decide +kernel, rfl, by decide +kernel, by decide +kernel⟩
def F_law : Fsem := fsem Φ__law_right Φf__law_begun G 1000000 1 8 b_law
def Φ_law : Str → Option Fsem := put Φ__law_right "law" F_law

/-! ### the head -/
def d_is_name : He.DefD := ⟨("is_name", none), "is_name", "is_name", defArgs (top 25), defBody (top 25), defScope (top 25), [], []⟩
def d_need_row : He.DefD := ⟨("need_row", none), "need_row", "need_row", defArgs (top 26), defBody (top 26), defScope (top 26), [], []⟩
def d_image_in : He.DefD := ⟨("image_in", none), "image_in", "image_in", defArgs (top 16), defBody (top 16), defScope (top 16), [], []⟩
def d_behind_in : He.DefD := ⟨("behind_in", none), "behind_in", "behind_in", defArgs (top 17), defBody (top 17), defScope (top 17), [], []⟩
def d_told_in : He.DefD := ⟨("told_in", none), "told_in", "told_in", defArgs (top 27), defBody (top 27), defScope (top 27), [], []⟩
def d_told_by : He.DefD := ⟨("told_by", none), "told_by", "told_by", defArgs (top 28), defBody (top 28), defScope (top 28), [], []⟩
def d_is_word : He.DefD := ⟨("is_word", none), "is_word", "is_word", defArgs (top 7), defBody (top 7), defScope (top 7), [], []⟩
def d_need_replacement : He.DefD := ⟨("need_replacement", none), "need_replacement", "need_replacement", defArgs (top 15), defBody (top 15), defScope (top 15), [], []⟩
def d_swapped : He.DefD := ⟨("swapped", none), "swapped", "swapped", defArgs (top 29), defBody (top 29), defScope (top 29), [], []⟩
def d_front_of : He.DefD := ⟨("front_of", none), "front_of", "front_of", defArgs (top 30), defBody (top 30), defScope (top 30), [], []⟩
def d_back_of : He.DefD := ⟨("back_of", none), "back_of", "back_of", defArgs (top 31), defBody (top 31), defScope (top 31), [], []⟩
def d_led_by : He.DefD := ⟨("led_by", none), "led_by", "led_by", defArgs (top 32), defBody (top 32), defScope (top 32), [], []⟩
def d_do_agree : He.DefD := ⟨("do_agree", none), "do_agree", "do_agree", defArgs (top 33), defBody (top 33), defScope (top 33), [], []⟩
def d_row_in : He.DefD := ⟨("row_in", none), "row_in", "row_in", defArgs (top 34), defBody (top 34), defScope (top 34), [], []⟩
def d_row_of : He.DefD := ⟨("row_of", none), "row_of", "row_of", defArgs (top 35), defBody (top 35), defScope (top 35), [], []⟩
def d__law_begun : He.DefD := ⟨("_law_begun", none), "_law_begun", "_law_begun", defArgs (top 42), defBody (top 42), defScope (top 42), [], []⟩
def d__law_image : He.DefD := ⟨("_law_image", none), "_law_image", "_law_image", defArgs (top 49), defBody (top 49), defScope (top 49), [], []⟩
def d__law_meant : He.DefD := ⟨("_law_meant", none), "_law_meant", "_law_meant", defArgs (top 50), defBody (top 50), defScope (top 50), [], []⟩
def d__law_told : He.DefD := ⟨("_law_told", none), "_law_told", "_law_told", defArgs (top 51), defBody (top 51), defScope (top 51), [], []⟩
def d__law_draw : He.DefD := ⟨("_law_draw", none), "_law_draw", "_law_draw", defArgs (top 43), defBody (top 43), defScope (top 43), [], []⟩
def d__law_of : He.DefD := ⟨("_law_of", none), "_law_of", "_law_of", defArgs (top 44), defBody (top 44), defScope (top 44), [], []⟩
def d__law_names : He.DefD := ⟨("_law_names", none), "_law_names", "_law_names", defArgs (top 52), defBody (top 52), defScope (top 52), [], []⟩
def d__law_letters : He.DefD := ⟨("_law_letters", none), "_law_letters", "_law_letters", defArgs (top 45), defBody (top 45), defScope (top 45), [], []⟩
def d__law_line : He.DefD := ⟨("_law_line", none), "_law_line", "_law_line", defArgs (top 46), defBody (top 46), defScope (top 46), [], []⟩
def d__law_even_text : He.DefD := ⟨("_law_even_text", none), "_law_even_text", "_law_even_text", defArgs (top 47), defBody (top 47), defScope (top 47), [], []⟩
def d__law_near_text : He.DefD := ⟨("_law_near_text", none), "_law_near_text", "_law_near_text", defArgs (top 48), defBody (top 48), defScope (top 48), [], []⟩
def d__law_pair : He.DefD := ⟨("_law_pair", none), "_law_pair", "_law_pair", defArgs (top 53), defBody (top 53), defScope (top 53), [], []⟩
def d__law_row_right : He.DefD := ⟨("_law_row_right", none), "_law_row_right", "_law_row_right", defArgs (top 55), defBody (top 55), defScope (top 55), [], []⟩
def d_heights_of : He.DefD := ⟨("heights_of", none), "heights_of", "heights_of", defArgs (top 8), defBody (top 8), defScope (top 8), [], []⟩
def d_bounds_at : He.DefD := ⟨("bounds_at", none), "bounds_at", "bounds_at", defArgs (top 9), defBody (top 9), defScope (top 9), [], []⟩
def d_first_uneven : He.DefD := ⟨("first_uneven", none), "first_uneven", "first_uneven", defArgs (top 10), defBody (top 10), defScope (top 10), [], []⟩
def d_is_even_in : He.DefD := ⟨("is_even_in", none), "is_even_in", "is_even_in", defArgs (top 11), defBody (top 11), defScope (top 11), [], []⟩
def d_root_of : He.DefD := ⟨("root_of", none), "root_of", "root_of", defArgs (top 37), defBody (top 37), defScope (top 37), [], []⟩
def d_powers_in : He.DefD := ⟨("powers_in", none), "powers_in", "powers_in", defArgs (top 38), defBody (top 38), defScope (top 38), [], []⟩
def d_keeps_in : He.DefD := ⟨("keeps_in", none), "keeps_in", "keeps_in", defArgs (top 39), defBody (top 39), defScope (top 39), [], []⟩
def d_keeps : He.DefD := ⟨("keeps", none), "keeps", "keeps", defArgs (top 40), defBody (top 40), defScope (top 40), [], []⟩
def d__law_first_row : He.DefD := ⟨("_law_first_row", none), "_law_first_row", "_law_first_row", defArgs (top 54), defBody (top 54), defScope (top 54), [], []⟩
def d__law_right : He.DefD := ⟨("_law_right", none), "_law_right", "_law_right", defArgs (top 56), defBody (top 56), defScope (top 56), [], []⟩
def d_law : He.DefD := ⟨("law", none), "law", "law", defArgs (top 57), defBody (top 57), defScope (top 57), [], []⟩
def fn : List He.DefD := [d_is_name, d_need_row, d_image_in, d_behind_in, d_told_in, d_told_by, d_is_word, d_need_replacement, d_swapped, d_front_of, d_back_of, d_led_by, d_do_agree, d_row_in, d_row_of, d__law_begun, d__law_image, d__law_meant, d__law_told, d__law_draw, d__law_of, d__law_names, d__law_letters, d__law_line, d__law_even_text, d__law_near_text, d__law_pair, d__law_row_right, d_heights_of, d_bounds_at, d_first_uneven, d_is_even_in, d_root_of, d_powers_in, d_keeps_in, d_keeps, d__law_first_row, d__law_right, d_law]
def fa1 : List He.Fa := [.glo "is_name", .glo "need_row", .glo "image_in", .glo "behind_in", .glo "told_in", .glo "told_by", .glo "is_word", .glo "need_replacement", .glo "swapped", .glo "front_of", .glo "back_of", .glo "led_by", .glo "do_agree", .glo "row_in", .glo "row_of", .glo "_law_begun", .glo "_law_image", .glo "_law_meant", .glo "_law_told", .glo "_law_draw", .glo "_law_of", .glo "_law_names", .glo "_law_letters", .glo "_law_line", .glo "_law_even_text", .glo "_law_near_text", .glo "_law_pair", .glo "_law_row_right", .glo "heights_of", .glo "bounds_at", .glo "first_uneven", .glo "is_even_in", .glo "root_of", .glo "powers_in", .glo "keeps_in", .glo "keeps", .glo "_law_first_row", .glo "_law_right", .glo "law"]
def fa2 : List He.Fa := bltNames.map .free
def fa3 : List He.Fa := []
def fa : List He.Fa := fa1 ++ (fa2 ++ fa3)
def loose : List Str := [("__name__" : Str), ("EvenError" : Str), ("BadReplacement" : Str), ("BadRow" : Str), ("TooLong" : Str), ("LETTERS" : Str), ("is_word" : Str), ("heights_of" : Str), ("bounds_at" : Str), ("first_uneven" : Str), ("is_even_in" : Str), ("MOST_SIZE" : Str), ("SAME" : Str), ("need_replacement" : Str), ("image_in" : Str), ("behind_in" : Str), ("BACK" : Str), ("FRONT" : Str), ("SWAP" : Str), ("PLAIN" : Str), ("MEANT" : Str), ("MOST_NAMES" : Str), ("is_name" : Str), ("need_row" : Str), ("told_in" : Str), ("told_by" : Str), ("swapped" : Str), ("front_of" : Str), ("back_of" : Str), ("led_by" : Str), ("do_agree" : Str), ("row_in" : Str), ("row_of" : Str), ("root_of" : Str), ("powers_in" : Str), ("keeps_in" : Str), ("keeps" : Str), ("_law_begun" : Str), ("_law_draw" : Str), ("_law_of" : Str), ("_law_letters" : Str), ("_law_line" : Str), ("_law_even_text" : Str), ("_law_near_text" : Str), ("_law_image" : Str), ("_law_meant" : Str), ("_law_told" : Str), ("_law_names" : Str), ("_law_pair" : Str), ("_law_first_row" : Str), ("_law_row_right" : Str), ("_law_right" : Str)]
abbrev R : PySem.W.OpenRow := PySem.W.OpenLaw.row PySem.Challenge.rw_evenkept_k13_whole_rows
abbrev hk : PySem.W.Hook := EK.hookE 4 fa fn (EK.consK Gt) ["MEANT"]
def ob (s : PySem.W.SharedT) : EK.AlE := EK.obsE 4 fa fn (EK.consK Gt) ["MEANT"] (HandSHeadRun.getT s)
theorem ob_eq (s : PySem.W.SharedT) : ob s = hk.obs s.abs := EK.obsE_eq (HandSHeadRun.getT_eq s)
theorem run0 (w : World) : HandSHeadRun.RunEq R (PySem.W.view R.prog [57]) hk ob 4000 loose (EK.folW w false) := by
  intro os
  kernel_rfl
theorem run1 (w : World) : HandSHeadRun.RunEq R (PySem.W.view R.prog [57]) hk ob 4000 loose (EK.folW w true) := by
  intro os
  kernel_rfl
theorem run (w : World) : HandSHeadRun.RunEq R (PySem.W.view R.prog [57]) hk ob 4000 loose w := by
  have h : HandSHeadRun.RunEq R (PySem.W.view R.prog [57]) hk ob 4000 loose (EK.folW w (w.params.followText "special-get-raises")) := by
    cases w.params.followText "special-get-raises"
    · exact run0 w
    · exact run1 w
  rw [EK.folW_eq w] at h
  exact h
section
variable {P : Program} {w : World} {h base : Heap} {mg : Str → Option Value} {K : PySem.W.Frag}
theorem levels (X : K.In h) (Gx : h.Ns mainGlobals mg) (c : EK.SaysE fa fn (EK.consK Gt) ["MEANT"] w K) : Lev P w ⟨K, mg, fun _ => ""⟩ base 39 Φ_law Φf__law_begun G ∧ ∃ fd, mg "law" = some (.ref (He.fAd K ("law", none))) ∧ FunD K "law" "law" (defArgs (top 57)) (defBody (top 57)) (defScope (top 57)) [] [] (He.fAd K ("law", none)) fd ∧ FnG P w K mg base (L2.CX P w) 39 (He.fAd K ("law", none)) fd P_law (spD ⟨K, mg, fun _ => ""⟩ F_law) := by
  have l0 : Lev P w ⟨K, mg, fun _ => ""⟩ base 0 Φ0 Φ0 G := ⟨c.meant X Gx, free_of (fa1 := fa1) (fa3 := fa3) X Gx c.d, EK.consK_ok X Gx c.more, (fun x F e => by cases e), (fun x F e => by cases e)⟩
  obtain ⟨fd0, F0⟩ := c.d.def_ 0 (d := d_is_name) rfl
  have g0 := He.glo_ok X Gx (c.d.fact 0 (f := .glo "is_name") rfl)
  have b0 := FunD.bindsN (ps := P_is_name) F0 fun _ _ _ _ _ _ us hl => match us, hl with | [_], _ => rfl
  have b0 := FunD.bindsX0 (x := "is_name") b0 (by decide +kernel)
  have l1 := l0.put F0 g0 b0 sc_is_name 1000000 b_is_name c_is_name
  obtain ⟨fd1, F1⟩ := c.d.def_ 1 (d := d_need_row) rfl
  have g1 := He.glo_ok X Gx (c.d.fact 1 (f := .glo "need_row") rfl)
  have b1 := FunD.bindsN (ps := P_need_row) F1 fun _ _ _ _ _ _ us hl => match us, hl with | [_], _ => rfl
  have b1 := FunD.bindsX0 (x := "need_row") b1 (by decide +kernel)
  have l2 := l1.put F1 g1 b1 sc_need_row 1000000 b_need_row c_need_row
  obtain ⟨fd2, F2⟩ := c.d.def_ 2 (d := d_image_in) rfl
  have g2 := He.glo_ok X Gx (c.d.fact 2 (f := .glo "image_in") rfl)
  have b2 := FunD.bindsN (ps := P_image_in) F2 fun _ _ _ _ _ _ us hl => match us, hl with | [_, _], _ => rfl
  have b2 := FunD.bindsX0 (x := "image_in") b2 (by decide +kernel)
  have l3 := l2.put F2 g2 b2 sc_image_in 1000000 b_image_in c_image_in
  obtain ⟨fd3, F3⟩ := c.d.def_ 3 (d := d_behind_in) rfl
  have g3 := He.glo_ok X Gx (c.d.fact 3 (f := .glo "behind_in") rfl)
  have b3 := FunD.bindsN (ps := P_behind_in) F3 fun _ _ _ _ _ _ us hl => match us, hl with | [_, _], _ => rfl
  have b3 := FunD.bindsX0 (x := "behind_in") b3 (by decide +kernel)
  have l4 := l3.put F3 g3 b3 sc_behind_in 1000000 b_behind_in c_behind_in
  obtain ⟨fd4, F4⟩ := c.d.def_ 4 (d := d_told_in) rfl
  have g4 := He.glo_ok X Gx (c.d.fact 4 (f := .glo "told_in") rfl)
  have b4 := FunD.bindsN (ps := P_told_in) F4 fun _ _ _ _ _ _ us hl => match us, hl with | [_], _ => rfl
  have b4 := FunD.bindsX0 (x := "told_in") b4 (by decide +kernel)
  have l5 := l4.put F4 g4 b4 sc_told_in 1000000 b_told_in c_told_in
  obtain ⟨fd5, F5⟩ := c.d.def_ 5 (d := d_told_by) rfl
  have g5 := He.glo_ok X Gx (c.d.fact 5 (f := .glo "told_by") rfl)
  have b5 := FunD.bindsN (ps := P_told_by) F5 fun _ _ _ _ _ _ us hl => match us, hl with | [_], _ => rfl
  have b5 := FunD.bindsX F5 b5 fun ks hk _ _ _ _ _ _ us hl => by cases hk; exact match us, hl with | [_], _ => rfl
  have l6 := l5.put F5 g5 b5 sc_told_by 1000000 b_told_by c_told_by
  obtain ⟨fd6, F6⟩ := c.d.def_ 6 (d := d_is_word) rfl
  have g6 := He.glo_ok X Gx (c.d.fact 6 (f := .glo "is_word") rfl)
  have b6 := FunD.bindsN (ps := P_is_word) F6 fun _ _ _ _ _ _ us hl => match us, hl with | [_, _, _], _ => rfl
  have b6 := FunD.bindsX0 (x := "is_word") b6 (by decide +kernel)
  have l7 := l6.put F6 g6 b6 sc_is_word 1000000 b_is_word c_is_word
  obtain ⟨fd7, F7⟩ := c.d.def_ 7 (d := d_need_replacement) rfl
  have g7 := He.glo_ok X Gx (c.d.fact 7 (f := .glo "need_replacement") rfl)
  have b7 := FunD.bindsN (ps := P_need_replacement) F7 fun _ _ _ _ _ _ us hl => match us, hl with | [_], _ => rfl
  have b7 := FunD.bindsX0 (x := "need_replacement") b7 (by decide +kernel)
  have l8 := l7.put F7 g7 b7 sc_need_replacement 1000000 b_need_replacement c_need_replacement
  obtain ⟨fd8, F8⟩ := c.d.def_ 8 (d := d_swapped) rfl
  have g8 := He.glo_ok X Gx (c.d.fact 8 (f := .glo "swapped") rfl)
  have b8 := FunD.bindsN (ps := P_swapped) F8 fun _ _ _ _ _ _ us hl => match us, hl with | [_], _ => rfl
  have b8 := FunD.bindsX0 (x := "swapped") b8 (by decide +kernel)
  have l9 := l8.put F8 g8 b8 sc_swapped 1000000 b_swapped c_swapped
  obtain ⟨fd9, F9⟩ := c.d.def_ 9 (d := d_front_of) rfl
  have g9 := He.glo_ok X Gx (c.d.fact 9 (f := .glo "front_of") rfl)
  have b9 := FunD.bindsN (ps := P_front_of) F9 fun _ _ _ _ _ _ us hl => match us, hl with | [_], _ => rfl
  have b9 := FunD.bindsX0 (x := "front_of") b9 (by decide +kernel)
  have l10 := l9.put F9 g9 b9 sc_front_of 1000000 b_front_of c_front_of
  obtain ⟨fd10, F10⟩ := c.d.def_ 10 (d := d_back_of) rfl
  have g10 := He.glo_ok X Gx (c.d.fact 10 (f := .glo "back_of") rfl)
  have b10 := FunD.bindsN (ps := P_back_of) F10 fun _ _ _ _ _ _ us hl => match us, hl with | [_], _ => rfl
  have b10 := FunD.bindsX0 (x := "back_of") b10 (by decide +kernel)
  have l11 := l10.put F10 g10 b10 sc_back_of 1000000 b_back_of c_back_of
  obtain ⟨fd11, F11⟩ := c.d.def_ 11 (d := d_led_by) rfl
  have g11 := He.glo_ok X Gx (c.d.fact 11 (f := .glo "led_by") rfl)
  have b11 := FunD.bindsN (ps := P_led_by) F11 fun _ _ _ _ _ _ us hl => match us, hl with | [_, _], _ => rfl
  have b11 := FunD.bindsX0 (x := "led_by") b11 (by decide +kernel)
  have l12 := l11.put F11 g11 b11 sc_led_by 1000000 b_led_by c_led_by
  obtain ⟨fd12, F12⟩ := c.d.def_ 12 (d := d_do_agree) rfl
  have g12 := He.glo_ok X Gx (c.d.fact 12 (f := .glo "do_agree") rfl)
  have b12 := FunD.bindsN (ps := P_do_agree) F12 fun _ _ _ _ _ _ us hl => match us, hl with | [_], _ => rfl
  have b12 := FunD.bindsX0 (x := "do_agree") b12 (by decide +kernel)
  have l13 := l12.put F12 g12 b12 sc_do_agree 1000000 b_do_agree c_do_agree
  obtain ⟨fd13, F13⟩ := c.d.def_ 13 (d := d_row_in) rfl
  have g13 := He.glo_ok X Gx (c.d.fact 13 (f := .glo "row_in") rfl)
  have b13 := FunD.bindsN (ps := P_row_in) F13 fun _ _ _ _ _ _ us hl => match us, hl with | [_], _ => rfl
  have b13 := FunD.bindsX0 (x := "row_in") b13 (by decide +kernel)
  have l14 := l13.put F13 g13 b13 sc_row_in 1000000 b_row_in c_row_in
  obtain ⟨fd14, F14⟩ := c.d.def_ 14 (d := d_row_of) rfl
  have g14 := He.glo_ok X Gx (c.d.fact 14 (f := .glo "row_of") rfl)
  have b14 := FunD.bindsN (ps := P_row_of) F14 fun _ _ _ _ _ _ us hl => match us, hl with | [_], _ => rfl
  have b14 := FunD.bindsX0 (x := "row_of") b14 (by decide +kernel)
  have l15 := l14.put F14 g14 b14 sc_row_of 1000000 b_row_of c_row_of
  obtain ⟨fd15, F15⟩ := c.d.def_ 15 (d := d__law_begun) rfl
  have g15 := He.glo_ok X Gx (c.d.fact 15 (f := .glo "_law_begun") rfl)
  have b15 := FunD.bindsN (ps := P__law_begun) F15 fun _ _ _ _ _ _ us hl => match us, hl with | [_], _ => rfl
  have l16 := l15.putF F15 g15 b15 sc__law_begun 1000000 b__law_begun c__law_begun
  obtain ⟨fd16, F16⟩ := c.d.def_ 16 (d := d__law_image) rfl
  have g16 := He.glo_ok X Gx (c.d.fact 16 (f := .glo "_law_image") rfl)
  have b16 := FunD.bindsN (ps := P__law_image) F16 fun _ _ _ _ _ _ us hl => match us, hl with | [_, _], _ => rfl
  have b16 := FunD.bindsX0 (x := "_law_image") b16 (by decide +kernel)
  have l17 := l16.put F16 g16 b16 sc__law_image 1000000 b__law_image c__law_image
  obtain ⟨fd17, F17⟩ := c.d.def_ 17 (d := d__law_meant) rfl
  have g17 := He.glo_ok X Gx (c.d.fact 17 (f := .glo "_law_meant") rfl)
  have b17 := FunD.bindsN (ps := P__law_meant) F17 fun _ _ _ _ _ _ us hl => match us, hl with | [_], _ => rfl
  have b17 := FunD.bindsX0 (x := "_law_meant") b17 (by decide +kernel)
  have l18 := l17.put F17 g17 b17 sc__law_meant 1000000 b__law_meant c__law_meant
  obtain ⟨fd18, F18⟩ := c.d.def_ 18 (d := d__law_told) rfl
  have g18 := He.glo_ok X Gx (c.d.fact 18 (f := .glo "_law_told") rfl)
  have b18 := FunD.bindsN (ps := P__law_told) F18 fun _ _ _ _ _ _ us hl => match us, hl with | [_], _ => rfl
  have b18 := FunD.bindsX0 (x := "_law_told") b18 (by decide +kernel)
  have l19 := l18.put F18 g18 b18 sc__law_told 1000000 b__law_told c__law_told
  obtain ⟨fd19, F19⟩ := c.d.def_ 19 (d := d__law_draw) rfl
  have g19 := He.glo_ok X Gx (c.d.fact 19 (f := .glo "_law_draw") rfl)
  have b19 := FunD.bindsN (ps := P__law_draw) F19 fun _ _ _ _ _ _ us hl => match us, hl with | [_, _], _ => rfl
  have b19 := FunD.bindsX0 (x := "_law_draw") b19 (by decide +kernel)
  have l20 := l19.put F19 g19 b19 sc__law_draw 1000000 b__law_draw c__law_draw
  obtain ⟨fd20, F20⟩ := c.d.def_ 20 (d := d__law_of) rfl
  have g20 := He.glo_ok X Gx (c.d.fact 20 (f := .glo "_law_of") rfl)
  have b20 := FunD.bindsN (ps := P__law_of) F20 fun _ _ _ _ _ _ us hl => match us, hl with | [_, _], _ => rfl
  have b20 := FunD.bindsX0 (x := "_law_of") b20 (by decide +kernel)
  have l21 := l20.put F20 g20 b20 sc__law_of 1000000 b__law_of c__law_of
  obtain ⟨fd21, F21⟩ := c.d.def_ 21 (d := d__law_names) rfl
  have g21 := He.glo_ok X Gx (c.d.fact 21 (f := .glo "_law_names") rfl)
  have b21 := FunD.bindsN (ps := P__law_names) F21 fun _ _ _ _ _ _ us hl => match us, hl with | [_, _], _ => rfl
  have b21 := FunD.bindsX0 (x := "_law_names") b21 (by decide +kernel)
  have l22 := l21.put F21 g21 b21 sc__law_names 1000000 b__law_names c__law_names
  obtain ⟨fd22, F22⟩ := c.d.def_ 22 (d := d__law_letters) rfl
  have g22 := He.glo_ok X Gx (c.d.fact 22 (f := .glo "_law_letters") rfl)
  have b22 := FunD.bindsN (ps := P__law_letters) F22 fun _ _ _ _ _ _ us hl => match us, hl with | [_, _], _ => rfl
  have b22 := FunD.bindsX0 (x := "_law_letters") b22 (by decide +kernel)
  have l23 := l22.put F22 g22 b22 sc__law_letters 1000000 b__law_letters c__law_letters
  obtain ⟨fd23, F23⟩ := c.d.def_ 23 (d := d__law_line) rfl
  have g23 := He.glo_ok X Gx (c.d.fact 23 (f := .glo "_law_line") rfl)
  have b23 := FunD.bindsN (ps := P__law_line) F23 fun _ _ _ _ _ _ us hl => match us, hl with | [_, _, _, _], _ => rfl
  have b23 := FunD.bindsX0 (x := "_law_line") b23 (by decide +kernel)
  have l24 := l23.put F23 g23 b23 sc__law_line 1000000 b__law_line c__law_line
  obtain ⟨fd24, F24⟩ := c.d.def_ 24 (d := d__law_even_text) rfl
  have g24 := He.glo_ok X Gx (c.d.fact 24 (f := .glo "_law_even_text") rfl)
  have b24 := FunD.bindsN (ps := P__law_even_text) F24 fun _ _ _ _ _ _ us hl => match us, hl with | [_, _], _ => rfl
  have b24 := FunD.bindsX0 (x := "_law_even_text") b24 (by decide +kernel)
  have l25 := l24.put F24 g24 b24 sc__law_even_text 1000000 b__law_even_text c__law_even_text
  obtain ⟨fd25, F25⟩ := c.d.def_ 25 (d := d__law_near_text) rfl
  have g25 := He.glo_ok X Gx (c.d.fact 25 (f := .glo "_law_near_text") rfl)
  have b25 := FunD.bindsN (ps := P__law_near_text) F25 fun _ _ _ _ _ _ us hl => match us, hl with | [_, _], _ => rfl
  have b25 := FunD.bindsX0 (x := "_law_near_text") b25 (by decide +kernel)
  have l26 := l25.put F25 g25 b25 sc__law_near_text 1000000 b__law_near_text c__law_near_text
  obtain ⟨fd26, F26⟩ := c.d.def_ 26 (d := d__law_pair) rfl
  have g26 := He.glo_ok X Gx (c.d.fact 26 (f := .glo "_law_pair") rfl)
  have b26 := FunD.bindsN (ps := P__law_pair) F26 fun _ _ _ _ _ _ us hl => match us, hl with | [_, _], _ => rfl
  have b26 := FunD.bindsX0 (x := "_law_pair") b26 (by decide +kernel)
  have l27 := l26.put F26 g26 b26 sc__law_pair 1000000 b__law_pair c__law_pair
  obtain ⟨fd27, F27⟩ := c.d.def_ 27 (d := d__law_row_right) rfl
  have g27 := He.glo_ok X Gx (c.d.fact 27 (f := .glo "_law_row_right") rfl)
  have b27 := FunD.bindsN (ps := P__law_row_right) F27 fun _ _ _ _ _ _ us hl => match us, hl with | [_, _], _ => rfl
  have b27 := FunD.bindsX0 (x := "_law_row_right") b27 (by decide +kernel)
  have l28 := l27.put F27 g27 b27 sc__law_row_right 1000000 b__law_row_right c__law_row_right
  obtain ⟨fd28, F28⟩ := c.d.def_ 28 (d := d_heights_of) rfl
  have g28 := He.glo_ok X Gx (c.d.fact 28 (f := .glo "heights_of") rfl)
  have b28 := FunD.bindsN (ps := P_heights_of) F28 fun _ _ _ _ _ _ us hl => match us, hl with | [_], _ => rfl
  have b28 := FunD.bindsX0 (x := "heights_of") b28 (by decide +kernel)
  have l29 := l28.put F28 g28 b28 sc_heights_of 1000000 b_heights_of c_heights_of
  obtain ⟨fd29, F29⟩ := c.d.def_ 29 (d := d_bounds_at) rfl
  have g29 := He.glo_ok X Gx (c.d.fact 29 (f := .glo "bounds_at") rfl)
  have b29 := FunD.bindsN (ps := P_bounds_at) F29 fun _ _ _ _ _ _ us hl => match us, hl with | [_, _], _ => rfl
  have b29 := FunD.bindsX0 (x := "bounds_at") b29 (by decide +kernel)
  have l30 := l29.put F29 g29 b29 sc_bounds_at 1000000 b_bounds_at c_bounds_at
  obtain ⟨fd30, F30⟩ := c.d.def_ 30 (d := d_first_uneven) rfl
  have g30 := He.glo_ok X Gx (c.d.fact 30 (f := .glo "first_uneven") rfl)
  have b30 := FunD.bindsN (ps := P_first_uneven) F30 fun _ _ _ _ _ _ us hl => match us, hl with | [_], _ => rfl
  have b30 := FunD.bindsX0 (x := "first_uneven") b30 (by decide +kernel)
  have l31 := l30.put F30 g30 b30 sc_first_uneven 1000000 b_first_uneven c_first_uneven
  obtain ⟨fd31, F31⟩ := c.d.def_ 31 (d := d_is_even_in) rfl
  have g31 := He.glo_ok X Gx (c.d.fact 31 (f := .glo "is_even_in") rfl)
  have b31 := FunD.bindsN (ps := P_is_even_in) F31 fun _ _ _ _ _ _ us hl => match us, hl with | [_], _ => rfl
  have b31 := FunD.bindsX0 (x := "is_even_in") b31 (by decide +kernel)
  have l32 := l31.put F31 g31 b31 sc_is_even_in 1000000 b_is_even_in c_is_even_in
  obtain ⟨fd32, F32⟩ := c.d.def_ 32 (d := d_root_of) rfl
  have g32 := He.glo_ok X Gx (c.d.fact 32 (f := .glo "root_of") rfl)
  have b32 := FunD.bindsN (ps := P_root_of) F32 fun _ _ _ _ _ _ us hl => match us, hl with | [_], _ => rfl
  have b32 := FunD.bindsX0 (x := "root_of") b32 (by decide +kernel)
  have l33 := l32.put F32 g32 b32 sc_root_of 1000000 b_root_of c_root_of
  obtain ⟨fd33, F33⟩ := c.d.def_ 33 (d := d_powers_in) rfl
  have g33 := He.glo_ok X Gx (c.d.fact 33 (f := .glo "powers_in") rfl)
  have b33 := FunD.bindsN (ps := P_powers_in) F33 fun _ _ _ _ _ _ us hl => match us, hl with | [_], _ => rfl
  have b33 := FunD.bindsX0 (x := "powers_in") b33 (by decide +kernel)
  have l34 := l33.put F33 g33 b33 sc_powers_in 1000000 b_powers_in c_powers_in
  obtain ⟨fd34, F34⟩ := c.d.def_ 34 (d := d_keeps_in) rfl
  have g34 := He.glo_ok X Gx (c.d.fact 34 (f := .glo "keeps_in") rfl)
  have b34 := FunD.bindsN (ps := P_keeps_in) F34 fun _ _ _ _ _ _ us hl => match us, hl with | [_], _ => rfl
  have b34 := FunD.bindsX0 (x := "keeps_in") b34 (by decide +kernel)
  have l35 := l34.put F34 g34 b34 sc_keeps_in 1000000 b_keeps_in c_keeps_in
  obtain ⟨fd35, F35⟩ := c.d.def_ 35 (d := d_keeps) rfl
  have g35 := He.glo_ok X Gx (c.d.fact 35 (f := .glo "keeps") rfl)
  have b35 := FunD.bindsN (ps := P_keeps) F35 fun _ _ _ _ _ _ us hl => match us, hl with | [_], _ => rfl
  have b35 := FunD.bindsX0 (x := "keeps") b35 (by decide +kernel)
  have l36 := l35.put F35 g35 b35 sc_keeps 1000000 b_keeps c_keeps
  obtain ⟨fd36, F36⟩ := c.d.def_ 36 (d := d__law_first_row) rfl
  have g36 := He.glo_ok X Gx (c.d.fact 36 (f := .glo "_law_first_row") rfl)
  have b36 := FunD.bindsN (ps := P__law_first_row) F36 fun _ _ _ _ _ _ us hl => match us, hl with | [_], _ => rfl
  have b36 := FunD.bindsX0 (x := "_law_first_row") b36 (by decide +kernel)
  have l37 := l36.put F36 g36 b36 sc__law_first_row 1000000 b__law_first_row c__law_first_row
  obtain ⟨fd37, F37⟩ := c.d.def_ 37 (d := d__law_right) rfl
  have g37 := He.glo_ok X Gx (c.d.fact 37 (f := .glo "_law_right") rfl)
  have b37 := FunD.bindsN (ps := P__law_right) F37 fun _ _ _ _ _ _ us hl => match us, hl with | [_, _], _ => rfl
  have b37 := FunD.bindsX0 (x := "_law_right") b37 (by decide +kernel)
  have l38 := l37.put F37 g37 b37 sc__law_right 1000000 b__law_right c__law_right
  obtain ⟨fd38, F38⟩ := c.d.def_ 38 (d := d_law) rfl
  have g38 := He.glo_ok X Gx (c.d.fact 38 (f := .glo "law") rfl)
  have b38 := FunD.bindsN (ps := P_law) F38 fun _ _ _ _ _ _ us hl => match us, hl with | [_], _ => rfl
  have b38 := FunD.bindsX0 (x := "law") b38 (by decide +kernel)
  have ok := fn_ok l38 F38 sc_law 1000000 (cs := b_law) c_law
  have l39 := l38.put F38 g38 b38 sc_law 1000000 b_law c_law
  exact ⟨l39, fd38, g38, F38, ok⟩
end
end EK.K13

set_option Elab.async false
set_option linter.all false
set_option maxRecDepth 100000
set_option maxHeartbeats 4000000
namespace EK.K13
open PySem L2 PySem.Spec PyProof.Rows
theorem ok_is_name : InmOk F_is_name := inmOk rfl
theorem ok_need_row : NroOk F_need_row := nroOk rfl rfl ok_is_name
theorem ok_image_in : IiOk F_image_in := iiOk
theorem ok_behind_in : BiOk F_behind_in := biOk rfl rfl ok_image_in
theorem ok_told_in : TiOk F_told_in := tiOk rfl rfl rfl ok_behind_in
theorem ok_told_by : TbOk F_told_by := tbOk rfl ok_told_in rfl ok_need_row
theorem ok_is_word : IwOk F_is_word := iwOk rfl
theorem ok_need_rep : NrOk F_need_replacement := nrOk rfl rfl ok_is_word
theorem ok_swapped : SwOk F_swapped := swOk
theorem ok_front : FfOk F_front_of := ffOk
theorem ok_back : BfOk F_back_of := bfOk rfl ok_front
theorem ok_led : LbOk F_led_by := lbOk rfl ok_back rfl ok_front
theorem ok_do_agree : AgOk F_do_agree := agOk
theorem ok_row : RiOk F_row_in := riOk rfl ok_do_agree rfl ok_led rfl ok_swapped rfl rfl rfl rfl rfl rfl (by omega)
theorem ok_row_of : RiOk F_row_of := roOk rfl ok_row rfl ok_need_rep
theorem ok_draw : DrawOk F__law_draw := drawOk
theorem ok_of : OfOk F__law_of := ofOk rfl ok_draw
theorem ok_letters : LtOk F__law_letters := ltOk rfl ok_of
theorem ok_limage : LiOk F__law_image := liOk
theorem ok_line : LnOk F__law_line := lnOk
theorem ok_even_text : EtOk F__law_even_text := etOk rfl ok_draw rfl ok_line
theorem ok_near : NtOk F__law_near_text := ntOk rfl ok_draw rfl ok_of rfl ok_even_text rfl ok_letters
theorem ok_meant : MeOk F__law_meant := meOk
theorem ok_told : ToOk F__law_told := toOk rfl ok_limage rfl ok_meant
theorem ok_names : LnmOk F__law_names := lnmOk rfl ok_draw rfl ok_of rfl ok_told
theorem ok_pair : LpOk F__law_pair := lpOk rfl ok_draw rfl ok_of rfl ok_told rfl ok_names rfl ok_near rfl ok_letters
theorem ok_row_right : RrOk F__law_row_right := rrOk rfl ok_row_of rfl ok_told
theorem ok_heights : HtOk F_heights_of := htOk
theorem ok_bounds : BdOk F_bounds_at := bdOk
theorem ok_first : FuOk F_first_uneven := fuOk rfl ok_heights rfl ok_bounds
theorem ok_even_in : EiOk F_is_even_in := eiOk rfl ok_first
theorem ok_root : RtsOk F_root_of := rtsOk
theorem ok_powers : PiOk F_powers_in := piOk rfl ok_do_agree rfl ok_root
theorem ok_keeps_in : KpOk F_keeps_in := kiOk rfl ok_powers rfl ok_even_in rfl ok_row
theorem ok_keeps : KpOk F_keeps := kpOk rfl ok_keeps_in rfl ok_need_rep
theorem ok_first_row : FrwOk F__law_first_row := frwOk rfl ok_told
theorem ok_right : R13 F__law_right := r13 rfl ok_row_of rfl ok_keeps rfl ok_first_row
theorem b_law_eq : b_law = .own 1 (.call "_law_begun" [.var 0]) :: pLaw13 :: .loop (.one 2) .rng [iLaw13] lL13 :: .frz 1 :: bRest13 := rfl
abbrev Ψ := Φ__law_right
theorem law_ok (ns : List Int) (hn : ns.length ≤ 63) : ∃ S, F_law [.frz (ns.map .int)] [] = .ok (.bl true) S := by
  obtain ⟨l, hb⟩ := begun_ok (Φ := Φ_row_of) (Φf := Φ0) (G := G) (fuel := 1000000) ns [] (by omega)
  have hb : F__law_begun [.frz (ns.map .int)] [] = .ok (.dic (dr (ns ++ [(ns.length : Int)]) l 0)) [] := hb
  refine ⟨[], ?_⟩
  obtain ⟨m, hm, hm2⟩ : ∃ m : Nat, ev Ψ G iLaw13 [some (.frz (ns.map .int)), some (.loc 0), none, none, none, none, none, none] [.dic (dr (ns ++ [(ns.length : Int)]) l 0)] = .ok (.int m) [.dic (dr (ns ++ [(ns.length : Int)]) l 0)] ∧ m ≤ 100 := by
    refine ⟨6 + min ns.length 10, ?_, by omega⟩
    have e : minD [.int (ns.length : Int), .int 10] = some (.int (if (10 : Int) < ns.length then 10 else ns.length)) := rfl
    simp [iLaw13, e]
    split <;> omega
  have hloop : ∃ y2 y6 y7 S', loopN (exSs Ψ Φf__law_begun G 1000000 0 lL13) (.one 2) (rngL 0 m) [some (.frz (ns.map .int)), some (.loc 0), none, none, none, none, none, none] [.dic (dr (ns ++ [(ns.length : Int)]) l 0)] = .next [some (.frz (ns.map .int)), some (.loc 0), y2, none, none, none, y6, y7] S' ∧ DS (2 ^ 30) S' := by
    refine loop0 (I := fun i Γ S => ∃ y2 y6 y7, Γ = [some (.frz (ns.map .int)), some (.loc 0), y2, none, none, none, y6, y7] ∧ DS (1113 * (i : Int)) S) (post := fun r => ∃ y2 y6 y7 S', r = .next [some (.frz (ns.map .int)), some (.loc 0), y2, none, none, none, y6, y7] S' ∧ DS (2 ^ 30) S') ⟨none, none, none, rfl, ⟨_, l, 0, rfl, by simp, by omega, by omega⟩⟩ ?_ ?_
    · rintro i x Γ S hi ⟨y2, y6, y7, rfl, h⟩
      obtain ⟨hi, rfl⟩ := rngAt hi
      obtain ⟨z6, z7, S2, e2, h2⟩ := lap13 (Φ := Ψ) (Φf := Φf__law_begun) (G := G) (fuel := 1000000) (n0 := 0) (A := some (.frz (ns.map .int))) (i := i) (x3 := none) (x4 := none) (x5 := none) (x6 := y6) (x7 := y7) rfl ok_names rfl ok_told rfl ok_told_by rfl ok_row_right rfl ok_right rfl ok_pair h (by omega)
      rw [Int.zero_add]
      exact ⟨_, rfl, .inl ⟨_, S2, e2, _, z6, z7, rfl, h2.mono (by omega)⟩⟩
    · rintro Γ S ⟨y2, y6, y7, rfl, h⟩
      rw [rng_len] at h
      exact ⟨y2, y6, y7, S, rfl, h.mono (by omega)⟩
  obtain ⟨y2, y6, y7, S', e, cs, l', s', rfl, _⟩ := hloop
  have hi : itD .rng [.int m] = some (rngL 0 m) := it_rng1 (in62_of (by omega) (by omega)) (by omega)
  exact law13_gen (A := .frz (ns.map .int)) rfl rfl hb hm hi e fun _ _ _ _ _ => rest13 rfl ok_row_of rfl ok_told_by rfl ok_told
end EK.K13

set_option Elab.async false
set_option linter.all false
set_option maxRecDepth 100000
set_option maxHeartbeats 4000000
namespace EK.K13
section
open PySem PySem.W PySem.Calls PyProof.Rows L2 HandSHeadRun
theorem z_e : opening (OpenLaw.row PySem.Challenge.rw_evenkept_k13_whole_rows).prog = plainProg (OpenLaw.row PySem.Challenge.rw_evenkept_k13_whole_rows).prog.main.scope.names := by kernel_rfl
theorem z_f : ∀ s, fenceModules? (OpenLaw.row PySem.Challenge.rw_evenkept_k13_whole_rows).prog s = some s := fun s => by kernel_rfl
theorem z_def : defOf (view (OpenLaw.row PySem.Challenge.rw_evenkept_k13_whole_rows).prog [57]) (OpenLaw.row PySem.Challenge.rw_evenkept_k13_whole_rows).name = some (HandSHeadRun.topDef (OpenLaw.row PySem.Challenge.rw_evenkept_k13_whole_rows).prog 57, []) := by kernel_rfl
theorem z_hp : (OpenLaw.row PySem.Challenge.rw_evenkept_k13_whole_rows).prog.theDef (OpenLaw.row PySem.Challenge.rw_evenkept_k13_whole_rows).name = some ((HandSHeadRun.topDef (OpenLaw.row PySem.Challenge.rw_evenkept_k13_whole_rows).prog 57).params, (HandSHeadRun.topDef (OpenLaw.row PySem.Challenge.rw_evenkept_k13_whole_rows).prog 57).body, (HandSHeadRun.topDef (OpenLaw.row PySem.Challenge.rw_evenkept_k13_whole_rows).prog 57).scope) := by kernel_rfl
theorem z_kw : kwWritten? (HandSHeadRun.topDef (OpenLaw.row PySem.Challenge.rw_evenkept_k13_whole_rows).prog 57).params.kwonlyargs (HandSHeadRun.topDef (OpenLaw.row PySem.Challenge.rw_evenkept_k13_whole_rows).prog 57).params.kw_defaults = some [] := by kernel_rfl
theorem z_ok : (chainsOk (view (OpenLaw.row PySem.Challenge.rw_evenkept_k13_whole_rows).prog [57]) && opensWell (OpenLaw.row PySem.Challenge.rw_evenkept_k13_whole_rows).prog && (frees (OpenLaw.row PySem.Challenge.rw_evenkept_k13_whole_rows).toRowW && (OpenLaw.row PySem.Challenge.rw_evenkept_k13_whole_rows).within.isEmpty)) = true := by decide +kernel
theorem z_bare : (OpenLaw.row PySem.Challenge.rw_evenkept_k13_whole_rows).prog.bare := ⟨rfl, rfl, rfl, rfl, rfl, by decide +kernel⟩
theorem z_nm : (HandSHeadRun.topDef (OpenLaw.row PySem.Challenge.rw_evenkept_k13_whole_rows).prog 57).name = ("law" : PySem.Str) := by kernel_rfl
end
end EK.K13
open PySem PySem.W PySem.Calls PyProof.Rows L2
theorem K13_of (hlaw : ∀ ns : List Int, ns.length ≤ 63 → ∃ S, EK.K13.F_law [.frz (ns.map .int)] [] = .ok (.bl true) S) : PySem.Challenge.rw_evenkept_k13_whole_rows.Holds := by
  w_on; o_law
  refine HandSHeadRun.head_any (r := OpenLaw.row PySem.Challenge.rw_evenkept_k13_whole_rows) (q := view (OpenLaw.row PySem.Challenge.rw_evenkept_k13_whole_rows).prog [57]) (H := EK.K13.hk) (ob := EK.K13.ob) (M := 4000) (loose := EK.K13.loose) (d := HandSHeadRun.topDef (OpenLaw.row PySem.Challenge.rw_evenkept_k13_whole_rows).prog 57) (kwd := []) EK.K13.ob_eq
    EK.K13.z_e EK.K13.z_f EK.K13.run EK.K13.z_def EK.K13.z_hp EK.K13.z_kw (by rfl) (by first | assumption | decide +kernel) EK.K13.z_ok EK.K13.z_bare ?hw ?hc
  case hw => w_witness2
  case hc =>
    refine EK.walk_ofG (l := PySem.Challenge.rw_evenkept_k13_whole_rows) (n := 63) (k := 39) (x := "_law_script") (Xc := L2.CX0) rfl (by decide) (by kernel_rfl) ⟨⟨rfl, by decide, by decide⟩, rfl⟩ ?F (fun _ _ _ _ z => z)
    intro w mg fa h Y Gx hmg0
    obtain ⟨K, KX, c⟩ := Y
    have hmg : mg ("law" : PySem.Str) = some (.ref fa) := by
      have e := EK.K13.z_nm
      rw [← e]
      exact hmg0
    obtain ⟨_, fd, g, F, _⟩ := EK.K13.levels (P := PySem.Challenge.rw_evenkept_k13_whole_rows.prog) (w := w) (base := h) KX Gx c
    have e := hmg.symm.trans g
    cases e
    have b := L2.FunD.bindsA (ps := EK.K13.P_law) F fun _ _ _ _ _ _ us hl => match us, hl with | [_], _ => rfl
    refine ⟨K, fd, (fun vs H Q _ => EK.spD ⟨K, mg, fun _ => ""⟩ EK.K13.F_law vs H Q fun _ _ _ => False), KX, fun s v => b s [v] rfl, fun H a ns hl _ hS => EK.law_sp (C := ⟨K, mg, fun _ => ""⟩) (hlaw ns hl) hS, fun base hb1 hb2 => ?_⟩
    obtain ⟨_, fd2, _, F2, ok⟩ := EK.K13.levels (P := PySem.Challenge.rw_evenkept_k13_whole_rows.prog) (w := w) (base := base) KX Gx c
    have hfd : fd2 = fd := EK.fd_uniq F F2
    rw [hfd] at ok
    exact EK.FnG.calm (C := ⟨K, mg, fun _ => ""⟩) ok

set_option maxRecDepth 100000 in
set_option maxHeartbeats 8000000 in
theorem PySem.Challenge.cw_evenkept_k13_whole_rows_holds : PySem.Challenge.rw_evenkept_k13_whole_rows.Holds := by
  exact K13_of EK.K13.law_ok
