import PyProof.Rows.All
import PySem.Challenge.RW_translatory_k61_values_and_applications
import HandS.ForMost
import HandS.ForExc
import HandS.TupAny
import HandS.Wide
import HandS.IsInst
import HandS.Conv
import HandS.NoneIn
import HandS.Defaults
import HandS.AnyAll
import HandS.OwnEq
import HandS.Codes
import HandS.ExcIs
import HandS.More
import HandS.GenList
import PyProof.ConsumeS
import HandS.Head0
import HandS.Head1
import HandS.Head2
import HandS.HeadEnd
import HandS.HeadHook4
import HandS.HeadWalk
import HandS.SortRule
import HandS.NamedTupSort
import HandS.TupSets
import HandS.TupLe
import HandS.Text
import HandS.Iter
import HandS.Comp
import PyProof.AutoSeq1
import HandS.Zip
import KE.GoesEnum
import HandS.SetKeys
import HandS.SortKw
import KE.DataMinMax
import HandS.TupMul
import HandS.Dict
import HandS.ExcOwn
import HandS.Star
import HandS.ExcInit
import HandS.Nested
import HandS.ExcField
import KE.KSuper
import KE.KExcSuper
import HandS.MakeKwOnly
import HandS.ExcInitHot
import PyProof.StrOps2
import HandS.HeadHook3
import HandS.Strs
import PyProof.StrWalks
import PyProof.SliceStr2
import HandS.Exc
set_option Elab.async false
set_option linter.all false
set_option maxRecDepth 100000
/-! Data over the heap: frozen data D, what a slot holds (M), and how both lie in an abstract heap. -/
namespace DM
open PySem PySem.Spec PyProof.Rows
open L2

/-- the tables of code objects of the defs that hold generator expressions -/
class Tabs where
  ts : List Addr
def TabsOk [Tabs] (H : Hp) (O : List Addr) : Prop := ∀ P ∈ Tabs.ts, P ∉ O ∧ ∃ ps : Array Value, H P = some (.tbl ps) ∧ TriplesOk ps.toList
variable [Tabs]

/-- frozen data -/
inductive D where
  | non | bl (b : Bool) | int (i : Int) | str (x : Str) | ty (n : String) | ptr (a : Addr)
  | tup (ds : List D) | lst (ds : List D)
  | dK (ks : List Key) (ds : List D) | dT (ks : List (List Key)) (ds : List D)
  | obj (C : Addr) (ns : List Str) (ds : List D)
  | exc (a dd : Addr) (ns : List Str) (ds : List D)

/-- what a slot or a place of the reckoning holds: frozen data, nothing known, or an object of one's own -/
inductive M where
  | v (d : D) | gone
  | ml (ds : List D) | mk (ks : List Key) (ds : List D) | mt (ks : List (List Key)) (ds : List D)
  | mo (C : Addr) (ns : List Str) (ms : List M)
  | mkm (ks : List Key) (ms : List M)

mutual
def fz : M → D
  | .v d => d
  | .gone => .non
  | .ml ds => .lst ds
  | .mk ks ds => .dK ks ds
  | .mt ks ds => .dT ks ds
  | .mo C ns ms => .obj C ns (fzs ms)
  | .mkm ks ms => .dK ks (fzs ms)
def fzs : List M → List D
  | [] => []
  | m :: ms => fz m :: fzs ms
end

/-- a tuple, a list of the written part -/
def KTup (K : PySem.W.Frag) (a : Addr) (xs : List V) : Prop := ∃ (o : Obj) (its : Array Value) (n : Nat), K.lookup a = some o ∧ o.cls = .type "tuple" ∧ o.data = .seq its n ∧ its.size ≤ sizeLine ∧ Vals xs its.toList
def KLst (K : PySem.W.Frag) (a : Addr) (xs : List V) : Prop := ∃ (o : Obj) (its : Array Value) (n : Nat), K.lookup a = some o ∧ o.cls = .type "list" ∧ o.dict = none ∧ o.data = .seq its n ∧ its.size ≤ sizeLine ∧ Vals xs its.toList
def TupO (_ : PySem.W.Frag) (H : Hp) (O : List Addr) (a : Addr) (xs : List V) : Prop := H a = some (.tup xs) ∧ a ∉ O
def LstO (K : PySem.W.Frag) (H : Hp) (O : List Addr) (a : Addr) (xs : List V) : Prop := (Rd H a (.lst xs) ∧ a ∉ O) ∨ KLst K a xs
theorem TupO.sq {K : PySem.W.Frag} {H : Hp} {O : List Addr} {a : Addr} {xs : List V} (h : TupO K H O a xs) : SqT K H a xs := .inl (.inl h.1)
theorem LstO.sq {K : PySem.W.Frag} {H : Hp} {O : List Addr} {a : Addr} {xs : List V} (h : LstO K H O a xs) : SqL K H a xs := h.imp (·.1) id

mutual
/-- v stands for d; none of its objects is in O -/
inductive RD (K : PySem.W.Frag) (H : Hp) (O : List Addr) : V → D → Prop
  | non : RD K H O .non .non
  | bl (b : Bool) : RD K H O (.bl b) (.bl b)
  | int (i : Int) : RD K H O (.int i) (.int i)
  | str (x : Str) : RD K H O (.str x) (.str x)
  | ty (n : String) : RD K H O (.ty n) (.ty n)
  | ptr (a : Addr) : RD K H O (.ref a) (.ptr a)
  | tup {a : Addr} {vs : List V} {ds : List D} : TupO K H O a vs → RDs K H O vs ds → RD K H O (.ref a) (.tup ds)
  | lst {a : Addr} {vs : List V} {ds : List D} : LstO K H O a vs → RDs K H O vs ds → RD K H O (.ref a) (.lst ds)
  | dK {a : Addr} {kvs : List (Key × V)} {ks : List Key} {ds : List D} : a ∉ O → H a = some (.dK kvs) → kvs.map Prod.fst = ks → RDs K H O (kvs.map Prod.snd) ds → RD K H O (.ref a) (.dK ks ds)
  | dT {a : Addr} {kvs : List (List Key × V)} {ks : List (List Key)} {ds : List D} : a ∉ O → H a = some (.dT kvs) → kvs.map Prod.fst = ks → RDs K H O (kvs.map Prod.snd) ds → RD K H O (.ref a) (.dT ks ds)
  | obj {a C dx : Addr} {fs : List (Str × V)} {ns : List Str} {ds : List D} : a ∉ O → H a = some (.ins C dx fs) → fs.map Prod.fst = ns → RDs K H O (fs.map Prod.snd) ds → RD K H O (.ref a) (.obj C ns ds)
  | exc {a dd : Addr} {fs : List (Str × V)} {ns : List Str} {ds : List D} : dd ∉ O → H dd = some (.xd fs) → fs.map Prod.fst = ns → RDs K H O (fs.map Prod.snd) ds → RD K H O (.ref a) (.exc a dd ns ds)
inductive RDs (K : PySem.W.Frag) (H : Hp) (O : List Addr) : List V → List D → Prop
  | nil : RDs K H O [] []
  | cons {v : V} {d : D} {vs : List V} {ds : List D} : RD K H O v d → RDs K H O vs ds → RDs K H O (v :: vs) (d :: ds)
end

abbrev Pr := Option V × M
mutual
/-- a slot's content; fp: its own objects -/
inductive RM (K : PySem.W.Frag) (H : Hp) (O : List Addr) : Option V → M → List Addr → Prop
  | gone (x : Option V) : RM K H O x .gone []
  | v {x : V} {d : D} : RD K H O x d → RM K H O (some x) (.v d) []
  | ml {a : Addr} {vs : List V} {ds : List D} : H a = some (.lst vs) → RDs K H O vs ds → RM K H O (some (.ref a)) (.ml ds) [a]
  | mk {a : Addr} {kvs : List (Key × V)} {ks : List Key} {ds : List D} : H a = some (.dK kvs) → kvs.map Prod.fst = ks → RDs K H O (kvs.map Prod.snd) ds → RM K H O (some (.ref a)) (.mk ks ds) [a]
  | mt {a : Addr} {kvs : List (List Key × V)} {ks : List (List Key)} {ds : List D} : H a = some (.dT kvs) → kvs.map Prod.fst = ks → RDs K H O (kvs.map Prod.snd) ds → RM K H O (some (.ref a)) (.mt ks ds) [a]
  | mo {a C dx : Addr} {fs : List (Str × V)} {ns : List Str} {ms : List M} {fp : List Addr} : H a = some (.ins C dx fs) → fs.map Prod.fst = ns → fs.length = ms.length → RL K H O ((fs.map fun p => some p.2).zip ms) fp → RM K H O (some (.ref a)) (.mo C ns ms) (a :: fp)
  | mkm {a : Addr} {kvs : List (Key × V)} {ks : List Key} {ms : List M} {fp : List Addr} : H a = some (.dK kvs) → kvs.map Prod.fst = ks → kvs.length = ms.length → RL K H O ((kvs.map fun p => some p.2).zip ms) fp → RM K H O (some (.ref a)) (.mkm ks ms) (a :: fp)
inductive RL (K : PySem.W.Frag) (H : Hp) (O : List Addr) : List Pr → List Addr → Prop
  | nil : TabsOk H O → RL K H O [] []
  | cons {x : Option V} {m : M} {L : List Pr} {fp fps : List Addr} : RM K H O x m fp → RL K H O L fps → RL K H O ((x, m) :: L) (fp ++ fps)
end

/-- all places at once: their own objects are apart from one another, and from all that is frozen -/
def RS (K : PySem.W.Frag) (H : Hp) (L : List Pr) : Prop := ∃ O : List Addr, O.Nodup ∧ RL K H O L O

section
variable {K : PySem.W.Frag} {H H' : Hp} {O O' : List Addr}

/-- what holds between an earlier and a later state: frozen things stand; own things of later are own or new -/
structure Stp (H H' : Hp) (O O' : List Addr) : Prop where
  k : ∀ a o, H a = some o → a ∉ O → H' a = some o
  o : ∀ a, a ∈ O' → a ∈ O ∨ H a = none
theorem Stp.notin (S : Stp H H' O O') {a : Addr} {o : HO} (h : H a = some o) (n : a ∉ O) : a ∉ O' := fun z => by
  rcases S.o a z with q | q
  · exact n q
  · rw [h] at q; cases q
theorem Stp.rd (S : Stp H H' O O') {a : Addr} {u : HO} (h : Rd H a u) (n : a ∉ O) : Rd H' a u ∧ a ∉ O' := by
  rcases h with h | ⟨o, h⟩
  · exact ⟨.inl (S.k _ _ h n), S.notin h n⟩
  · exact ⟨.inr ⟨o, S.k _ _ h n⟩, S.notin h n⟩
mutual
theorem RD.step (S : Stp H H' O O') : ∀ {v : V} {d : D}, RD K H O v d → RD K H' O' v d
  | _, _, .non => .non
  | _, _, .bl b => .bl b
  | _, _, .int i => .int i
  | _, _, .str x => .str x
  | _, _, .ty n => .ty n
  | _, _, .ptr a => .ptr a
  | _, _, .tup h r => .tup ⟨S.k _ _ h.1 h.2, S.notin h.1 h.2⟩ (RDs.step S r)
  | _, _, .lst h r => .lst (h.imp (fun q => S.rd q.1 q.2) id) (RDs.step S r)
  | _, _, .dK n h e r => .dK (S.notin h n) (S.k _ _ h n) e (RDs.step S r)
  | _, _, .dT n h e r => .dT (S.notin h n) (S.k _ _ h n) e (RDs.step S r)
  | _, _, .obj n h e r => .obj (S.notin h n) (S.k _ _ h n) e (RDs.step S r)
  | _, _, .exc n h e r => .exc (S.notin h n) (S.k _ _ h n) e (RDs.step S r)
theorem RDs.step (S : Stp H H' O O') : ∀ {vs : List V} {ds : List D}, RDs K H O vs ds → RDs K H' O' vs ds
  | _, _, .nil => .nil
  | _, _, .cons h r => .cons (RD.step S h) (RDs.step S r)
end
theorem TabsOk.step (S : Stp H H' O O') (h : TabsOk H O) : TabsOk H' O' := fun P hP => by
  obtain ⟨h1, ps, h2, h3⟩ := h P hP
  exact ⟨S.notin h2 h1, ps, S.k _ _ h2 h1, h3⟩
mutual
theorem RM.step (S : Stp H H' O O') : ∀ {x : Option V} {m : M} {fp : List Addr}, RM K H O x m fp → (∀ a ∈ fp, ∀ o, H a = some o → H' a = some o) → RM K H' O' x m fp
  | _, _, _, .gone x, _ => .gone x
  | _, _, _, .v h, _ => .v (h.step S)
  | _, _, _, .ml h r, k => .ml (k _ List.mem_cons_self _ h) (r.step S)
  | _, _, _, .mk h e r, k => .mk (k _ List.mem_cons_self _ h) e (r.step S)
  | _, _, _, .mt h e r, k => .mt (k _ List.mem_cons_self _ h) e (r.step S)
  | _, _, _, .mo h e l r, k => .mo (k _ List.mem_cons_self _ h) e l (RL.step S r fun a ha => k a (List.mem_cons_of_mem _ ha))
  | _, _, _, .mkm h e l r, k => .mkm (k _ List.mem_cons_self _ h) e l (RL.step S r fun a ha => k a (List.mem_cons_of_mem _ ha))
theorem RL.step (S : Stp H H' O O') : ∀ {L : List Pr} {fp : List Addr}, RL K H O L fp → (∀ a ∈ fp, ∀ o, H a = some o → H' a = some o) → RL K H' O' L fp
  | _, _, .nil z, _ => .nil (z.step S)
  | _, _, .cons h r, k => .cons (RM.step S h fun a ha => k a (List.mem_append_left _ ha)) (RL.step S r fun a ha => k a (List.mem_append_right _ ha))
end
mutual
theorem RM.there : ∀ {x : Option V} {m : M} {fp : List Addr}, RM K H O x m fp → ∀ a ∈ fp, ∃ o, H a = some o
  | _, _, _, .gone x, a, z => nomatch z
  | _, _, _, .v h, a, z => nomatch z
  | _, _, _, .ml h r, a, z => by rw [List.mem_singleton] at z; subst z; exact ⟨_, h⟩
  | _, _, _, .mk h e r, a, z => by rw [List.mem_singleton] at z; subst z; exact ⟨_, h⟩
  | _, _, _, .mt h e r, a, z => by rw [List.mem_singleton] at z; subst z; exact ⟨_, h⟩
  | _, _, _, .mo h e l r, a, z => by
    rcases List.mem_cons.mp z with z | z
    · subst z; exact ⟨_, h⟩
    · exact RL.there r a z
  | _, _, _, .mkm h e l r, a, z => by
    rcases List.mem_cons.mp z with z | z
    · subst z; exact ⟨_, h⟩
    · exact RL.there r a z
theorem RL.there : ∀ {L : List Pr} {fp : List Addr}, RL K H O L fp → ∀ a ∈ fp, ∃ o, H a = some o
  | _, _, .nil _, a, z => nomatch z
  | _, _, .cons h r, a, z => by
    rcases List.mem_append.mp z with z | z
    · exact RM.there h a z
    · exact RL.there r a z
end
theorem RL.tabs : ∀ {L : List Pr} {fp : List Addr}, RL K H O L fp → TabsOk H O
  | _, _, .nil z => z
  | _, _, .cons _ r => RL.tabs r
theorem RL.append : ∀ {L1 L2 : List Pr} {f1 f2 : List Addr}, RL K H O L1 f1 → RL K H O L2 f2 → RL K H O (L1 ++ L2) (f1 ++ f2)
  | _, _, _, _, .nil _, r => r
  | _, _, _, _, .cons h q, r => by
    rw [List.append_assoc]
    exact .cons h (RL.append q r)
theorem RL.split : ∀ {L1 L2 : List Pr} {fp : List Addr}, RL K H O (L1 ++ L2) fp → ∃ f1 f2, fp = f1 ++ f2 ∧ RL K H O L1 f1 ∧ RL K H O L2 f2
  | [], L2, fp, h => ⟨[], fp, rfl, .nil h.tabs, h⟩
  | (x, m) :: L1, L2, _, .cons h r => by
    obtain ⟨f1, f2, rfl, r1, r2⟩ := RL.split (L1 := L1) (L2 := L2) r
    exact ⟨_, f2, (List.append_assoc _ _ _).symm, .cons h r1, r2⟩
theorem RL.perm : ∀ {L L' : List Pr}, L.Perm L' → ∀ {fp : List Addr}, RL K H O L fp → ∃ fp', fp.Perm fp' ∧ RL K H O L' fp' := by
  intro L L' p
  induction p with
  | nil => intro fp h; exact ⟨fp, .refl _, h⟩
  | cons x p ih =>
    intro fp h
    cases h with
    | cons h r =>
      obtain ⟨f', p', r'⟩ := ih r
      exact ⟨_, p'.append_left _, .cons h r'⟩
  | swap x y l =>
    intro fp h
    cases h with
    | cons h r =>
      cases r with
      | cons h2 r =>
        refine ⟨_, ?_, .cons h2 (.cons h r)⟩
        rw [← List.append_assoc, ← List.append_assoc]
        exact List.perm_append_comm.append_right _
  | trans p q ih1 ih2 =>
    intro fp h
    obtain ⟨f1, p1, r1⟩ := ih1 h
    obtain ⟨f2, p2, r2⟩ := ih2 r1
    exact ⟨f2, p1.trans p2, r2⟩
/-- fewer own things -/
theorem Stp.fewer (h : ∀ a, a ∈ O' → a ∈ O) : Stp H H O O' := ⟨fun _ _ e _ => e, fun a z => .inl (h a z)⟩
theorem RL.fewer {L : List Pr} {fp : List Addr} (r : RL K H O L fp) (h : ∀ a, a ∈ O' → a ∈ O) : RL K H O' L fp := r.step (Stp.fewer h) fun _ _ _ e => e

theorem RS.perm {L L' : List Pr} (p : L.Perm L') (h : RS K H L) : RS K H L' := by
  obtain ⟨O, n, r⟩ := h
  obtain ⟨O', q, r'⟩ := RL.perm p r
  exact ⟨O', q.nodup n, r'.fewer fun a z => q.symm.mem_iff.mp z⟩
theorem RS.drop {p : Pr} {L : List Pr} (h : RS K H (p :: L)) : RS K H L := by
  obtain ⟨O, n, r⟩ := h
  obtain ⟨x, m⟩ := p
  cases r with
  | cons h r => exact ⟨_, (List.nodup_append.mp n).2.1, r.fewer fun a z => List.mem_append_right _ z⟩
theorem RS.dropL : ∀ {L1 L : List Pr}, RS K H (L1 ++ L) → RS K H L
  | [], _, h => h
  | _ :: L1, _, h => RS.dropL (L1 := L1) h.drop
theorem RS.dropR {L1 L : List Pr} (h : RS K H (L1 ++ L)) : RS K H L1 := RS.dropL (RS.perm List.perm_append_comm h)
/-- forget one -/
theorem RS.forget {x : Option V} {m : M} {L : List Pr} (y : Option V) (h : RS K H ((x, m) :: L)) : RS K H ((y, .gone) :: L) := by
  obtain ⟨O, n, r⟩ := h.drop
  exact ⟨O, n, .cons (.gone y) r⟩
theorem RS.add0 {L : List Pr} (y : Option V) (h : RS K H L) : RS K H ((y, .gone) :: L) := by
  obtain ⟨O, n, r⟩ := h
  exact ⟨O, n, .cons (.gone y) r⟩
/-- frozen data may be had twice -/
theorem RS.dup {x : Option V} {d : D} {L : List Pr} (h : RS K H ((x, .v d) :: L)) : RS K H ((x, .v d) :: (x, .v d) :: L) := by
  obtain ⟨O, n, r⟩ := h
  cases r with
  | cons h r =>
    cases h with
    | v h => exact ⟨_, n, .cons (.v h) (.cons (.v h) r)⟩
/-- data without objects -/
theorem RS.data {v : V} {d : D} {L : List Pr} (h : RS K H L) (f : ∀ O, RD K H O v d) : RS K H ((some v, .v d) :: L) := by
  obtain ⟨O, n, r⟩ := h
  exact ⟨O, n, .cons (.v (f O)) r⟩
end
end DM

/-! What is done with all places at once: freezing, new objects, taking a slot's content, putting one. -/
namespace DM
open PySem PySem.Spec PyProof.Rows
open L2
variable [Tabs]

mutual
/-- nothing in it is unknown: it may be frozen -/
def fzok : M → Bool
  | .v _ => true
  | .gone => false
  | .ml _ => true
  | .mk _ _ => true
  | .mt _ _ => true
  | .mo _ _ ms => fzoks ms
  | .mkm _ ms => fzoks ms
def fzoks : List M → Bool
  | [] => true
  | m :: ms => fzok m && fzoks ms
end

section
variable {K : PySem.W.Frag} {H H' : Hp} {O O' : List Addr}
theorem RS.opn {x : Option V} {m : M} {L : List Pr} (h : RS K H ((x, m) :: L)) : ∃ fp f2, (fp ++ f2).Nodup ∧ RM K H (fp ++ f2) x m fp ∧ RL K H (fp ++ f2) L f2 := by
  obtain ⟨O, n, r⟩ := h
  cases r with
  | cons h r => exact ⟨_, _, n, h, r⟩
theorem RS.cls {x : Option V} {m : M} {L : List Pr} {fp f2 : List Addr} (n : (fp ++ f2).Nodup) (h : RM K H (fp ++ f2) x m fp) (r : RL K H (fp ++ f2) L f2) : RS K H ((x, m) :: L) := ⟨_, n, .cons h r⟩

theorem RDs.length : ∀ {vs : List V} {ds : List D}, RDs K H O vs ds → vs.length = ds.length
  | _, _, .nil => rfl
  | _, _, .cons _ r => by rw [List.length_cons, List.length_cons, r.length]
theorem RDs.append : ∀ {vs ws : List V} {ds es : List D}, RDs K H O vs ds → RDs K H O ws es → RDs K H O (vs ++ ws) (ds ++ es)
  | _, _, _, _, .nil, r => r
  | _, _, _, _, .cons h q, r => .cons h (q.append r)
theorem RDs.get : ∀ {vs : List V} {ds : List D} {i : Nat} {d : D}, RDs K H O vs ds → ds[i]? = some d → ∃ v, vs[i]? = some v ∧ RD K H O v d
  | _, _, i, d, .nil, e => by simp at e
  | _, _, 0, d, .cons h _, e => by simp at e; subst e; exact ⟨_, rfl, h⟩
  | _, _, i + 1, d, .cons _ r, e => by
    obtain ⟨v, a, b⟩ := r.get (i := i) (d := d) (by simpa using e)
    exact ⟨v, by simpa using a, b⟩
theorem RDs.take : ∀ {vs : List V} {ds : List D} (n : Nat), RDs K H O vs ds → RDs K H O (vs.take n) (ds.take n)
  | _, _, 0, _ => by rw [List.take_zero, List.take_zero]; exact .nil
  | _, _, n + 1, .nil => by rw [List.take_nil, List.take_nil]; exact .nil
  | _, _, n + 1, .cons h r => by rw [List.take_succ_cons, List.take_succ_cons]; exact .cons h (r.take n)
theorem RDs.drop : ∀ {vs : List V} {ds : List D} (n : Nat), RDs K H O vs ds → RDs K H O (vs.drop n) (ds.drop n)
  | _, _, 0, r => r
  | _, _, n + 1, .nil => by rw [List.drop_nil, List.drop_nil]; exact .nil
  | _, _, n + 1, .cons h r => by rw [List.drop_succ_cons, List.drop_succ_cons]; exact r.drop n
theorem RDs.set : ∀ {vs : List V} {ds : List D} (i : Nat) {v : V} {d : D}, RDs K H O vs ds → RD K H O v d → RDs K H O (vs.set i v) (ds.set i d)
  | _, _, i, _, _, .nil, _ => .nil
  | _, _, 0, _, _, .cons _ r, h => .cons h r
  | _, _, i + 1, _, _, .cons q r, h => .cons q (r.set i h)
theorem RDs.reverse : ∀ {vs : List V} {ds : List D}, RDs K H O vs ds → RDs K H O vs.reverse ds.reverse
  | _, _, .nil => .nil
  | _, _, .cons h r => by rw [List.reverse_cons, List.reverse_cons]; exact r.reverse.append (.cons h .nil)
theorem RDs.dropLast {vs : List V} {ds : List D} (r : RDs K H O vs ds) : RDs K H O vs.dropLast ds.dropLast := by
  rw [List.dropLast_eq_take, List.dropLast_eq_take, r.length]; exact r.take _
theorem RDs.replicate {v : V} {d : D} (h : RD K H O v d) : ∀ n : Nat, RDs K H O (List.replicate n v) (List.replicate n d)
  | 0 => .nil
  | n + 1 => .cons h (RDs.replicate h n)
theorem RDs.eraseIdx : ∀ {vs : List V} {ds : List D} (i : Nat), RDs K H O vs ds → RDs K H O (vs.eraseIdx i) (ds.eraseIdx i)
  | _, _, i, .nil => .nil
  | _, _, 0, .cons _ r => r
  | _, _, i + 1, .cons q r => .cons q (r.eraseIdx i)

theorem zip_snd {α β : Type} : ∀ {A : List α} {B : List β}, A.length = B.length → (A.zip B).map Prod.snd = B
  | [], [], _ => rfl
  | [], _ :: _, l => nomatch l
  | _ :: _, [], l => nomatch l
  | _ :: A, _ :: B, l => by rw [List.zip_cons_cons, List.map_cons, zip_snd (Nat.succ.inj l)]
theorem zip_fst {α β : Type} : ∀ {A : List α} {B : List β}, A.length = B.length → (A.zip B).map Prod.fst = A
  | [], [], _ => rfl
  | [], _ :: _, l => nomatch l
  | _ :: _, [], l => nomatch l
  | _ :: A, _ :: B, l => by rw [List.zip_cons_cons, List.map_cons, zip_fst (Nat.succ.inj l)]
theorem map_some_inj {α : Type} : ∀ {A B : List α}, A.map some = B.map some → A = B
  | [], [], _ => rfl
  | [], _ :: _, l => nomatch l
  | _ :: _, [], l => nomatch l
  | a :: A, b :: B, l => by
    have h := List.cons.inj l
    rw [Option.some.inj h.1, map_some_inj h.2]
/-! ### freezing -/
mutual
theorem RM.freeze (q : ∀ a ∈ O', a ∈ O) : ∀ {x : Option V} {m : M} {fp : List Addr}, RM K H O x m fp → fzok m = true → (∀ a ∈ fp, a ∉ O') → ∃ v, x = some v ∧ RD K H O' v (fz m)
  | _, _, _, .gone x, e, _ => nomatch e
  | _, _, _, .v h, e, _ => ⟨_, rfl, h.step (Stp.fewer q)⟩
  | _, _, _, .ml h r, _, n => ⟨_, rfl, .lst (.inl ⟨.inl h, n _ List.mem_cons_self⟩) (r.step (Stp.fewer q))⟩
  | _, _, _, .mk h e r, _, n => ⟨_, rfl, .dK (n _ List.mem_cons_self) h e (r.step (Stp.fewer q))⟩
  | _, _, _, .mt h e r, _, n => ⟨_, rfl, .dT (n _ List.mem_cons_self) h e (r.step (Stp.fewer q))⟩
  | _, _, _, .mo (fs := fs) (ms := ms) h e l r, z, n => by
    obtain ⟨vs, e1, r1⟩ := RL.freeze q r (by rw [zip_snd (by rw [List.length_map]; exact l)]; exact z) fun a ha => n a (List.mem_cons_of_mem _ ha)
    rw [zip_snd (by rw [List.length_map]; exact l)] at r1
    rw [zip_fst (by rw [List.length_map]; exact l)] at e1
    have e2 : fs.map Prod.snd = vs := by
      apply map_some_inj
      rw [← e1, List.map_map]
      rfl
    exact ⟨_, rfl, .obj (n _ List.mem_cons_self) h e (by rw [e2]; exact r1)⟩
  | _, _, _, .mkm (kvs := fs) (ms := ms) h e l r, z, n => by
    obtain ⟨vs, e1, r1⟩ := RL.freeze q r (by rw [zip_snd (by rw [List.length_map]; exact l)]; exact z) fun a ha => n a (List.mem_cons_of_mem _ ha)
    rw [zip_snd (by rw [List.length_map]; exact l)] at r1
    rw [zip_fst (by rw [List.length_map]; exact l)] at e1
    have e2 : fs.map Prod.snd = vs := by
      apply map_some_inj
      rw [← e1, List.map_map]
      rfl
    exact ⟨_, rfl, .dK (n _ List.mem_cons_self) h e (by rw [e2]; exact r1)⟩
theorem RL.freeze (q : ∀ a ∈ O', a ∈ O) : ∀ {L : List Pr} {fp : List Addr}, RL K H O L fp → fzoks (L.map Prod.snd) = true → (∀ a ∈ fp, a ∉ O') → ∃ vs : List V, L.map Prod.fst = vs.map some ∧ RDs K H O' vs (fzs (L.map Prod.snd))
  | _, _, .nil _, _, _ => ⟨[], rfl, .nil⟩
  | _, _, .cons h r, z, n => by
    have z' := Bool.and_eq_true_iff.mp z
    obtain ⟨w, ew, hw⟩ := RM.freeze q h z'.1 fun a ha => n a (List.mem_append_left _ ha)
    obtain ⟨vs, ev, hv⟩ := RL.freeze q r z'.2 fun a ha => n a (List.mem_append_right _ ha)
    refine ⟨w :: vs, ?_, .cons hw hv⟩
    rw [List.map_cons, List.map_cons, ev, ew]
end
theorem RS.freeze {x : Option V} {m : M} {L : List Pr} (h : RS K H ((x, m) :: L)) (z : fzok m = true) : RS K H ((x, .v (fz m)) :: L) := by
  obtain ⟨fp, f2, n, r, q⟩ := h.opn
  have d := (List.nodup_append.mp n)
  obtain ⟨v, rfl, hv⟩ := RM.freeze (O' := f2) (fun a ha => List.mem_append_right _ ha) r z fun a ha hb => d.2.2 a ha a hb rfl
  exact ⟨f2, d.2.1, .cons (fp := []) (.v hv) (q.fewer fun a ha => List.mem_append_right _ ha)⟩
/-- several, frozen, and the rest -/
theorem RS.frozen {vs : List V} {ms : List M} {L : List Pr} (l : vs.length = ms.length) (h : RS K H ((vs.map some).zip ms ++ L)) (z : fzoks ms = true) : ∃ O, O.Nodup ∧ RDs K H O vs (fzs ms) ∧ RL K H O L O := by
  obtain ⟨O, n, r⟩ := h
  obtain ⟨f1, f2, rfl, r1, r2⟩ := RL.split r
  have d := (List.nodup_append.mp n)
  have l' : (vs.map some).length = ms.length := by rw [List.length_map]; exact l
  obtain ⟨ws, e, q⟩ := RL.freeze (O' := f2) (fun a ha => List.mem_append_right _ ha) r1 (by rw [zip_snd l']; exact z) fun a ha hb => d.2.2 a ha a hb rfl
  rw [zip_fst l'] at e
  rw [zip_snd l', ← map_some_inj e] at q
  exact ⟨f2, d.2.1, q, r2.fewer fun a ha => List.mem_append_right _ ha⟩
theorem fzs_v (ds : List D) : fzs (ds.map M.v) = ds := by
  induction ds with
  | nil => rfl
  | cons d ds ih => show d :: fzs (ds.map M.v) = d :: ds; rw [ih]
theorem fzoks_v (ds : List D) : fzoks (ds.map M.v) = true := by
  induction ds with
  | nil => rfl
  | cons d ds ih => show (true && fzoks (ds.map M.v)) = true; rw [ih]; rfl

/-! ### new objects -/
theorem RL.notnew {L : List Pr} {fp : List Addr} (r : RL K H O L fp) {p : Addr} (hp : H p = none) : p ∉ fp := fun z => by
  obtain ⟨o, e⟩ := r.there p z
  rw [e] at hp; cases hp
theorem stp_new {p : Addr} {o : HO} (hp : H p = none) (h : ∀ a, a ∈ O' → a ∈ O ∨ a = p) : Stp H (upd H p o) O O' :=
  ⟨fun a u e _ => by rw [upd_ne (ne_of_none e hp)]; exact e, fun a z => (h a z).imp id fun e => by rw [e]; exact hp⟩
theorem RL.newO {L : List Pr} {fp : List Addr} (r : RL K H O L fp) {p : Addr} {o : HO} (hp : H p = none) (h : ∀ a, a ∈ O' → a ∈ O ∨ a = p) : RL K (upd H p o) O' L fp :=
  r.step (stp_new hp h) fun a _ u e => by rw [upd_ne (ne_of_none e hp)]; exact e
/-- something that is not told of is laid -/
theorem RS.ext {L : List Pr} (h : RS K H L) (k : ∀ a o, H a = some o → H' a = some o) : RS K H' L := by
  obtain ⟨O, n, r⟩ := h
  exact ⟨O, n, r.step ⟨fun a o e _ => k a o e, fun a z => .inl z⟩ fun a _ o e => k a o e⟩
theorem RS.newTup {vs : List V} {ds : List D} {L : List Pr} {p : Addr} (h : ∃ O, O.Nodup ∧ RDs K H O vs ds ∧ RL K H O L O) (hp : H p = none) : RS K (upd H p (.tup vs)) ((some (.ref p), .v (.tup ds)) :: L) := by
  obtain ⟨O, n, hd, r⟩ := h
  have np := r.notnew hp
  exact ⟨O, n, .cons (fp := []) (.v (.tup ⟨upd_same, np⟩ (hd.step (stp_new hp fun a z => .inl z)))) (r.newO hp fun a z => .inl z)⟩
theorem RS.newLst {vs : List V} {ds : List D} {L : List Pr} {p : Addr} (h : ∃ O, O.Nodup ∧ RDs K H O vs ds ∧ RL K H O L O) (hp : H p = none) : RS K (upd H p (.lst vs)) ((some (.ref p), .ml ds) :: L) := by
  obtain ⟨O, n, hd, r⟩ := h
  have np := r.notnew hp
  refine ⟨p :: O, List.nodup_cons.mpr ⟨np, n⟩, .cons (fp := [p]) (.ml upd_same (hd.step (stp_new hp fun a z => ?_))) (r.newO hp fun a z => ?_)⟩
  · exact (List.mem_cons.mp z).symm
  · exact (List.mem_cons.mp z).symm
theorem RS.newK {L : List Pr} {p : Addr} (h : RS K H L) (hp : H p = none) : RS K (upd H p (.dK [])) ((some (.ref p), .mk [] []) :: L) := by
  obtain ⟨O, n, r⟩ := h
  have np := r.notnew hp
  exact ⟨p :: O, List.nodup_cons.mpr ⟨np, n⟩, .cons (fp := [p]) (.mk upd_same rfl .nil) (r.newO hp fun a z => (List.mem_cons.mp z).symm)⟩
theorem RS.newT {L : List Pr} {p : Addr} (h : RS K H L) (hp : H p = none) : RS K (upd H p (.dT [])) ((some (.ref p), .mt [] []) :: L) := by
  obtain ⟨O, n, r⟩ := h
  have np := r.notnew hp
  exact ⟨p :: O, List.nodup_cons.mpr ⟨np, n⟩, .cons (fp := [p]) (.mt upd_same rfl .nil) (r.newO hp fun a z => (List.mem_cons.mp z).symm)⟩

/-! ### an own object is written -/
theorem stp_put {a : Addr} {o : HO} (ha : a ∈ O) (h : ∀ b, b ∈ O' → b ∈ O) : Stp H (upd H a o) O O' :=
  ⟨fun b u e n => by rw [upd_ne fun z => n (by rw [z]; exact ha)]; exact e, fun b z => .inl (h b z)⟩
theorem RS.putLst {a : Addr} {ds ds' : List D} {L : List Pr} (h : RS K H ((some (.ref a), .ml ds) :: L)) :
    ∃ vs, H a = some (.lst vs) ∧ vs.length = ds.length ∧ (∀ O, RDs K H O vs ds → True) ∧ ∀ vs', (∀ O, RDs K H O vs ds → a ∈ O → RDs K H O vs' ds') → RS K (upd H a (.lst vs')) ((some (.ref a), .ml ds') :: L) := by
  obtain ⟨fp, f2, n, r, q⟩ := h.opn
  cases r with
  | ml e r =>
    refine ⟨_, e, r.length, fun _ _ => trivial, fun vs' hv => ?_⟩
    have d := List.nodup_append.mp n
    refine RS.cls (fp := [a]) n (.ml upd_same ((hv _ r (by simp)).step (stp_put (by simp) fun b z => z))) (q.step (stp_put (by simp) fun b z => z) fun b hb o ho => ?_)
    rw [upd_ne fun z => d.2.2 a (by simp) b hb z.symm]
    exact ho

/-! ### places -/
theorem perm_at {α : Type} : ∀ {L : List α} {i : Nat} {p : α}, L[i]? = some p → L.Perm (p :: L.eraseIdx i)
  | [], i, p, e => by simp at e
  | x :: L, 0, p, e => by simp at e; subst e; exact .refl _
  | x :: L, i + 1, p, e => by
    have e' : L[i]? = some p := by simpa using e
    exact ((perm_at e').cons x).trans (.swap p x _)
theorem perm_set {α : Type} : ∀ {L : List α} {i : Nat} (q : α), i < L.length → (L.set i q).Perm (q :: L.eraseIdx i)
  | [], i, q, e => nomatch e
  | x :: L, 0, q, e => .refl _
  | x :: L, i + 1, q, e => ((perm_set q (Nat.lt_of_succ_lt_succ e)).cons x).trans (.swap q x _)
theorem zip_set {α β : Type} : ∀ (A : List α) (B : List β) (i : Nat) (a : α) (b : β), (A.set i a).zip (B.set i b) = (A.zip B).set i (a, b)
  | [], B, i, a, b => by simp
  | x :: A, [], i, a, b => by simp
  | x :: A, y :: B, 0, a, b => rfl
  | x :: A, y :: B, i + 1, a, b => by simp [zip_set A B i a b]
theorem zip_get {α β : Type} : ∀ {A : List α} {B : List β} {i : Nat} {b : β}, A.length = B.length → B[i]? = some b → ∃ a, A[i]? = some a ∧ (A.zip B)[i]? = some (a, b)
  | [], [], i, b, _, e => by simp at e
  | [], _ :: _, i, b, l, _ => nomatch l
  | _ :: _, [], i, b, l, _ => nomatch l
  | x :: A, y :: B, 0, b, l, e => by simp at e; subst e; exact ⟨x, rfl, rfl⟩
  | x :: A, y :: B, i + 1, b, l, e => by
    obtain ⟨a, h1, h2⟩ := zip_get (A := A) (B := B) (i := i) (b := b) (Nat.succ.inj l) (by simpa using e)
    exact ⟨a, by simpa using h1, by simpa using h2⟩
theorem set_get {α : Type} {A : List α} {i : Nat} {a : α} (h : A[i]? = some a) : A.set i a = A := by
  apply List.ext_getElem?
  intro j
  by_cases e : i = j
  · subst e
    rw [List.getElem?_set_self (by have := (List.getElem?_eq_some_iff.mp h).1; exact this), h]
  · rw [List.getElem?_set_ne e]
theorem perm_mid {α : Type} (G P : List α) (p : α) : (G ++ p :: P).Perm (p :: (G ++ P)) := List.perm_middle
/-- a slot's content is taken out -/
theorem RS.take {G : List Pr} {σ : List (Option V)} {S : List M} {i : Nat} {m : M} (h : RS K H (G ++ σ.zip S)) (l : σ.length = S.length) (e : S[i]? = some m) :
    ∃ x, σ[i]? = some x ∧ RS K H ((x, m) :: (G ++ σ.zip (S.set i .gone))) := by
  obtain ⟨x, h1, h2⟩ := zip_get l e
  refine ⟨x, h1, ?_⟩
  have hi : i < (σ.zip S).length := (List.getElem?_eq_some_iff.mp h2).1
  have p1 : (G ++ σ.zip S).Perm ((x, m) :: (G ++ (σ.zip S).eraseIdx i)) := ((perm_at h2).append_left G).trans (perm_mid _ _ _)
  have r := RS.perm p1 h
  have r2 : RS K H ((x, .gone) :: (x, m) :: (G ++ (σ.zip S).eraseIdx i)) := RS.add0 x r
  have e2 : σ.zip (S.set i .gone) = (σ.zip S).set i (x, .gone) := by rw [← zip_set, set_get h1]
  rw [e2]
  refine RS.perm ?_ r2
  refine (List.Perm.swap _ _ _).trans (List.Perm.cons _ ?_)
  exact (((perm_set (x, M.gone) hi).append_left G).trans (perm_mid _ _ _)).symm
/-- a slot gets a content -/
theorem RS.put {G : List Pr} {σ : List (Option V)} {S : List M} {i : Nat} {x : Option V} {m : M} (h : RS K H ((x, m) :: (G ++ σ.zip S))) (l : σ.length = S.length) (hi : i < S.length) :
    RS K H (G ++ (σ.set i x).zip (S.set i m)) := by
  have hz : i < (σ.zip S).length := by rw [List.length_zip, l, Nat.min_self]; exact hi
  rw [zip_set]
  refine RS.perm (((perm_set (x, m) hz).append_left G).trans (perm_mid _ _ _)).symm ?_
  have p : ((x, m) :: (G ++ σ.zip S)).Perm ((σ.zip S)[i] :: (x, m) :: (G ++ (σ.zip S).eraseIdx i)) := by
    have q := perm_at (L := σ.zip S) (i := i) (List.getElem?_eq_getElem hz)
    exact (((q.append_left G).trans (perm_mid _ _ _)).cons _).trans (.swap _ _ _)
  exact (RS.perm p h).drop
/-- .. its own content, back -/
theorem RS.back {G : List Pr} {σ : List (Option V)} {S : List M} {i : Nat} {x : Option V} {m : M} (h : RS K H ((x, m) :: (G ++ σ.zip S))) (l : σ.length = S.length) (e : σ[i]? = some x) :
    RS K H (G ++ σ.zip (S.set i m)) := by
  have hi : i < S.length := by rw [← l]; exact (List.getElem?_eq_some_iff.mp e).1
  have r := RS.put h l hi
  rw [set_get e] at r
  exact r
theorem set_set' {α : Type} (A : List α) (i : Nat) (a b : α) : (A.set i a).set i b = A.set i b := List.set_set ..
/-- a slot's frozen content is had twice -/
theorem RS.copy {G : List Pr} {σ : List (Option V)} {S : List M} {i : Nat} {d : D} (h : RS K H (G ++ σ.zip S)) (l : σ.length = S.length) (e : S[i]? = some (.v d)) :
    ∃ v, σ[i]? = some (some v) ∧ RS K H ((some v, .v d) :: (G ++ σ.zip S)) := by
  obtain ⟨x, h1, r⟩ := RS.take h l e
  have r2 := RS.dup r
  obtain ⟨v, rfl⟩ : ∃ v, x = some v := by
    obtain ⟨fp, f2, n, q, _⟩ := r.opn
    cases q with
    | v q => exact ⟨_, rfl⟩
  refine ⟨v, h1, ?_⟩
  have r3 : RS K H ((some v, .v d) :: (((some v, .v d) :: G) ++ σ.zip (S.set i .gone))) := r2
  have r4 := RS.back r3 (by rw [List.length_set]; exact l) h1
  rw [set_set', set_get e] at r4
  exact r4
/-! ### a field's content -/
def fAt (f : Str) : List Str → List M → Option M
  | n :: ns, m :: ms => match f == n with
    | true => some m
    | false => fAt f ns ms
  | _, _ => none
def fSet (f : Str) (y : M) : List Str → List M → List M
  | n :: ns, m :: ms => match f == n with
    | true => y :: ms
    | false => m :: fSet f y ns ms
  | _, ms => ms
theorem fAt_t {f n : Str} {ns : List Str} {m : M} {ms : List M} (q : (f == n) = true) : fAt f (n :: ns) (m :: ms) = some m := by simp only [fAt, q]
theorem fAt_f {f n : Str} {ns : List Str} {m : M} {ms : List M} (q : (f == n) = false) : fAt f (n :: ns) (m :: ms) = fAt f ns ms := by simp only [fAt, q]
theorem fSet_t {f n : Str} {ns : List Str} {m y : M} {ms : List M} (q : (f == n) = true) : fSet f y (n :: ns) (m :: ms) = y :: ms := by simp only [fSet, q]
theorem fSet_f {f n : Str} {ns : List Str} {m y : M} {ms : List M} (q : (f == n) = false) : fSet f y (n :: ns) (m :: ms) = m :: fSet f y ns ms := by simp only [fSet, q]
theorem fSet_len {f : Str} {y : M} : ∀ (ns : List Str) (ms : List M), (fSet f y ns ms).length = ms.length
  | [], ms => by cases ms <;> rfl
  | n :: ns, [] => rfl
  | n :: ns, m :: ms => by
    cases q : f == n with
    | true => rw [fSet_t q]; rfl
    | false => rw [fSet_f q, List.length_cons, List.length_cons, fSet_len ns ms]
/-- the place of a field, by itself -/
theorem RL.field {f : Str} : ∀ {fs : List (Str × V)} {ns : List Str} {ms : List M} {m : M} {fp : List Addr}, fs.map Prod.fst = ns → fAt f ns ms = some m → RL K H O ((fs.map fun p => some p.2).zip ms) fp →
    ∃ v fm fr, fs.lookup f = some v ∧ RM K H O (some v) m fm ∧ fp.Perm (fm ++ fr) ∧ ∀ m' fm', RM K H O (some v) m' fm' → ∃ fp', fp'.Perm (fm' ++ fr) ∧ RL K H O ((fs.map fun p => some p.2).zip (fSet f m' ns ms)) fp'
  | [], _, _, _, _, e, h, r => by
    cases e
    cases h
  | (g, x) :: fs, _, [], _, _, e, h, r => by
    cases e
    cases h
  | (g, x) :: fs, _, m0 :: ms, m, _, e, h, r => by
    cases e
    cases r with
    | @cons _ _ _ f1 f2 h1 r1 =>
      cases q : f == g with
      | true =>
        rw [List.map_cons, fAt_t q] at h
        cases h
        refine ⟨x, f1, f2, by rw [List.lookup_cons, q], h1, .refl _, fun m' fm' h' => ⟨fm' ++ f2, .refl _, ?_⟩⟩
        rw [show fSet f m' (List.map Prod.fst ((g, x) :: fs)) (m0 :: ms) = m' :: ms from fSet_t q]
        exact .cons h' r1
      | false =>
        rw [List.map_cons, fAt_f q] at h
        obtain ⟨v, fm, fr, a, b, c, d⟩ := RL.field rfl h r1
        refine ⟨v, fm, f1 ++ fr, by rw [List.lookup_cons, q]; exact a, b, ?_, fun m' fm' h' => ?_⟩
        · refine (c.append_left f1).trans ?_
          rw [← List.append_assoc, ← List.append_assoc]
          exact List.perm_append_comm.append_right _
        · obtain ⟨fp', p', r'⟩ := d m' fm' h'
          refine ⟨f1 ++ fp', ?_, ?_⟩
          · refine (p'.append_left f1).trans ?_
            rw [← List.append_assoc, ← List.append_assoc]
            exact List.perm_append_comm.append_right _
          · rw [show fSet f m' (List.map Prod.fst ((g, x) :: fs)) (m0 :: ms) = m0 :: fSet f m' (List.map Prod.fst fs) ms from fSet_f q]
            exact .cons h1 r'
/-- a field's own object, out of the instance: its place is kept -/
theorem RS.pinF {x : Option V} {C : Addr} {f : Str} {ns : List Str} {ms : List M} {m : M} {L : List Pr} (h : RS K H ((x, .mo C ns ms) :: L)) (e : fAt f ns ms = some m) :
    ∃ a dx fs v, x = some (.ref a) ∧ H a = some (.ins C dx fs) ∧ fs.lookup f = some v ∧ (∃ O fm, RM K H O (some v) m fm) ∧ (∀ d, m = .v d → RS K H ((some v, .v d) :: (x, .mo C ns ms) :: L)) ∧ ∀ l, v = .ref l → RS K H ((some (.ref l), m) :: (x, .mo C ns (fSet f (.v (.ptr l)) ns ms)) :: L) := by
  obtain ⟨fp0, f2, n, r, q⟩ := h.opn
  cases r with
  | @mo a _ dx fs _ _ fp hH ek le rl =>
    obtain ⟨v, fm, fr, h1, h2, h3, h4⟩ := RL.field ek e rl
    refine ⟨a, dx, fs, v, rfl, hH, h1, ⟨_, _, h2⟩, fun d ed => ?_, fun l el => ?_⟩
    · subst ed
      refine ⟨(a :: fp) ++ f2, n, .cons (fp := []) ?_ (.cons (.mo hH ek le rl) q)⟩
      cases h2 with
      | v h2 => exact .v h2
    · subst el
      obtain ⟨fp', p', r'⟩ := h4 (.v (.ptr l)) [] (.v (.ptr l))
      have pa : ((a :: fp) ++ f2).Perm (fm ++ ((a :: fp') ++ f2)) := by
        have p1 : (a :: fp).Perm (fm ++ (a :: fp')) := ((h3.trans (p'.symm.append_left fm)).cons a).trans List.perm_middle.symm
        rw [← List.append_assoc]
        exact p1.append_right f2
      refine ⟨_, pa.nodup n, ?_⟩
      have r2 : RL K H ((a :: fp) ++ f2) ((some (.ref l), m) :: (some (.ref a), .mo C ns (fSet f (.v (.ptr l)) ns ms)) :: L) (fm ++ ((a :: fp') ++ f2)) := .cons h2 (.cons (.mo hH ek (by rw [fSet_len]; exact le) r') q)
      exact r2.fewer fun b hb => pa.symm.mem_iff.mp hb
/-- .. back -/
theorem RS.unpinF {x : Option V} {C l : Addr} {f : Str} {ns : List Str} {ms : List M} {m : M} {L : List Pr} (h : RS K H ((some (.ref l), m) :: (x, .mo C ns ms) :: L)) (e : fAt f ns ms = some (.v (.ptr l))) : RS K H ((x, .mo C ns (fSet f m ns ms)) :: L) := by
  obtain ⟨O, n, r⟩ := h
  cases r with
  | @cons _ _ _ fm frest hm r =>
    cases r with
    | @cons _ _ _ fo fL ho q =>
      cases ho with
      | @mo a _ dx fs _ _ fp hH ek le rl =>
        obtain ⟨v, fv, fr, h1, h2, h3, h4⟩ := RL.field ek e rl
        cases h2 with
        | v h2 =>
          cases h2
          obtain ⟨fp', p', r'⟩ := h4 m fm hm
          have pa : (fm ++ ((a :: fp) ++ fL)).Perm ((a :: fp') ++ fL) := by
            rw [← List.append_assoc]
            refine List.Perm.append_right fL ?_
            refine List.perm_middle.trans (List.Perm.cons a ?_)
            exact (h3.append_left fm).trans p'.symm
          refine ⟨_, pa.nodup n, ?_⟩
          have r2 : RL K H (fm ++ ((a :: fp) ++ fL)) ((some (.ref a), .mo C ns (fSet f m ns ms)) :: L) ((a :: fp') ++ fL) := .cons (.mo hH ek (by rw [fSet_len]; exact le) r') q
          exact r2.fewer fun b hb => pa.symm.mem_iff.mp hb
/-- the order of what stands in front -/
theorem RS.rot {G1 G2 L : List Pr} (h : RS K H (G1 ++ (G2 ++ L))) : RS K H (G2 ++ (G1 ++ L)) := by
  rw [← List.append_assoc] at h ⊢
  exact RS.perm (List.perm_append_comm.append_right L) h
theorem RS.swap {p q : Pr} {L : List Pr} (h : RS K H (p :: q :: L)) : RS K H (q :: p :: L) := RS.perm (.swap _ _ _) h
end
end DM

/-! The judgements over data: what an expression, a test, arguments, a statement do, read without a heap. -/
namespace DM
open PySem PySem.Spec PyProof.Rows
open L2
variable [Tabs]

/-- one of two ways; opened by iteP_of, iteP_t, iteP_f alone -/
structure iteP (b : Bool) (A B : Prop) : Prop where
  go : if b = true then A else B
theorem iteP_t {A B : Prop} : iteP true A B = A := propext ⟨fun h => by
  have q := h.go
  rwa [if_pos rfl] at q, fun a => ⟨by rwa [if_pos rfl]⟩⟩
theorem iteP_f {A B : Prop} : iteP false A B = B := propext ⟨fun h => by
  have q := h.go
  rwa [if_neg (by decide)] at q, fun a => ⟨by rwa [if_neg (by decide)]⟩⟩
theorem iteP_T {A B : Prop} (a : A) : iteP true A B := by rw [iteP_t]; exact a
theorem iteP_F {A B : Prop} (b : B) : iteP false A B := by rw [iteP_f]; exact b
theorem iteP_of {b : Bool} {A B : Prop} (h1 : b = true → A) (h2 : b = false → B) : iteP b A B := by
  cases b with
  | true => rw [iteP_t]; exact h1 rfl
  | false => rw [iteP_f]; exact h2 rfl
theorem iteP_pos {b : Bool} {A B : Prop} (h : b = true) (a : A) : iteP b A B := by subst h; rw [iteP_t]; exact a
theorem iteP_neg {b : Bool} {A B : Prop} (h : b = false) (a : B) : iteP b A B := by subst h; rw [iteP_f]; exact a
theorem iteP_d {p : Prop} [Decidable p] {A B : Prop} (h1 : p → A) (h2 : ¬ p → B) : iteP (decide p) A B := iteP_of (fun e => h1 (of_decide_eq_true e)) fun e => h2 (of_decide_eq_false e)
/-- K, where b is seen to be true -/
def chk (b : Bool) (K : Prop) : Prop := match b with
  | true => K
  | false => False
theorem chk.ok {b : Bool} {K : Prop} (h : chk b K) : b = true ∧ K := by
  cases b with
  | true => exact ⟨rfl, h⟩
  | false => exact h.elim
abbrev EX := Value × Option (List (Str × D))
abbrev XM := EX → List M → Prop
abbrev RMx := M → List M → Prop
abbrev FE := List M → RMx → XM → Prop
abbrev FT := List M → (Bool → List M → Prop) → XM → Prop
abbrev FA := List M → (List M → List M → Prop) → XM → Prop
structure EM where
  nx : List M → Prop
  rt : RMx
  bk : List M → Prop := fun _ => False
  ct : List M → Prop := fun _ => False
  ex : XM := fun _ _ => False
abbrev FS := EM → List M → Prop

/-- an exception's own dict d holds the fields fs -/
def XOk (K : PySem.W.Frag) (H : Hp) (d : Option Addr) (fs : Option (List (Str × D))) (L : List Pr) : Prop :=
  match fs, d with
  | none, none => RS K H L
  | some fs, some dd => ∃ fvs : List (Str × V), H dd = some (.xd fvs) ∧ fvs.map Prod.fst = fs.map Prod.fst ∧ RS K H (((fvs.map Prod.snd).map some).zip ((fs.map Prod.snd).map M.v) ++ L)
  | _, _ => False
theorem XOk.imp {K : PySem.W.Frag} {H : Hp} {d : Option Addr} {fs : Option (List (Str × D))} {L L' : List Pr} (h : XOk K H d fs L) (k : ∀ L1, RS K H (L1 ++ L) → RS K H (L1 ++ L')) : XOk K H d fs L' := by
  cases fs with
  | none =>
    cases d with
    | none => exact k [] h
    | some d => exact h
  | some fs =>
    cases d with
    | none => exact h
    | some d =>
      obtain ⟨fvs, a, b, c⟩ := h
      exact ⟨fvs, a, b, k _ c⟩
theorem XOk.drop {K : PySem.W.Frag} {H : Hp} {d : Option Addr} {fs : Option (List (Str × D))} {p : Pr} {L : List Pr} (h : XOk K H d fs (p :: L)) : XOk K H d fs L :=
  h.imp fun L1 r => (RS.perm (perm_mid _ _ _) r).drop

def tD (K : PySem.W.Frag) (W : WX) (F : FE) : TE := fun σ H Q => ∃ (G : List Pr) (S : List M) (R : RMx) (XR : XM), σ.length = S.length ∧ RS K H (G ++ σ.zip S) ∧ F S R XR ∧
  (∀ m S' v H', σ.length = S'.length → R m S' → RS K H' ((some v, m) :: (G ++ σ.zip S')) → Q v H') ∧
  (∀ c fs S' d H', σ.length = S'.length → XR (c, fs) S' → XOk K H' d fs (G ++ σ.zip S') → W c d σ H')
def tDT (K : PySem.W.Frag) (W : WX) (F : FT) : TT := fun σ H Q => ∃ (G : List Pr) (S : List M) (R : Bool → List M → Prop) (XR : XM), σ.length = S.length ∧ RS K H (G ++ σ.zip S) ∧ F S R XR ∧
  (∀ b S' H', σ.length = S'.length → R b S' → RS K H' (G ++ σ.zip S') → Q b H') ∧
  (∀ c fs S' d H', σ.length = S'.length → XR (c, fs) S' → XOk K H' d fs (G ++ σ.zip S') → W c d σ H')
def tDA (K : PySem.W.Frag) (W : WX) (F : FA) : TA := fun σ H Q => ∃ (G : List Pr) (S : List M) (R : List M → List M → Prop) (XR : XM), σ.length = S.length ∧ RS K H (G ++ σ.zip S) ∧ F S R XR ∧
  (∀ ms S' vs H', σ.length = S'.length → vs.length = ms.length → R ms S' → RS K H' ((vs.map some).zip ms ++ (G ++ σ.zip S')) → Q vs H') ∧
  (∀ c fs S' d H', σ.length = S'.length → XR (c, fs) S' → XOk K H' d fs (G ++ σ.zip S') → W c d σ H')
/-- the params that the body leaves bound as they are -/
structure Ag (mask : List Bool) (σ σ' : L2.St) : Prop where
  len : σ'.length = σ.length
  same : ∀ i : Nat, mask[i]? = some true → σ'[i]? = σ[i]?
theorem Ag.refl {mask : List Bool} (σ : L2.St) : Ag mask σ σ := ⟨rfl, fun _ _ => rfl⟩
theorem Ag.trans {mask : List Bool} {σ σ1 σ2 : L2.St} (a : Ag mask σ σ1) (b : Ag mask σ1 σ2) : Ag mask σ σ2 := ⟨b.len.trans a.len, fun i h => (b.same i h).trans (a.same i h)⟩
theorem Ag.set {mask : List Bool} {σ : L2.St} {i : Nat} (x : Option V) (h : mask[i]? ≠ some true) : Ag mask σ (σ.set i x) := ⟨List.length_set .., fun j hj => by
  rw [List.getElem?_set_ne]
  intro e; subst e; exact h hj⟩
def tDS (K : PySem.W.Frag) (W : WX) (mask : List Bool) (F : FS) : TS := fun D σ H => ∃ (G : List Pr) (S : List M) (E : EM), σ.length = S.length ∧ RS K H (G ++ σ.zip S) ∧ F E S ∧
  (∀ S' σ' H', Ag mask σ σ' → σ'.length = S'.length → E.nx S' → RS K H' (G ++ σ'.zip S') → D.nx σ' H') ∧
  (∀ m S' v σ' H', Ag mask σ σ' → σ'.length = S'.length → E.rt m S' → RS K H' ((some v, m) :: (G ++ σ'.zip S')) → D.rt v H') ∧
  (∀ S' σ' H', Ag mask σ σ' → σ'.length = S'.length → E.bk S' → RS K H' (G ++ σ'.zip S') → D.bk σ' H') ∧
  (∀ S' σ' H', Ag mask σ σ' → σ'.length = S'.length → E.ct S' → RS K H' (G ++ σ'.zip S') → D.ct σ' H') ∧
  (∀ c fs S' d σ' H', Ag mask σ σ' → σ'.length = S'.length → E.ex (c, fs) S' → XOk K H' d fs (G ++ σ'.zip S') → W c d σ' H')

structure DE (X : Cx) (W : WX) (e : Expr) (F : FE) : Prop where
  pe : PE X e (tD X.K W F)
structure DT (X : Cx) (W : WX) (e : Expr) (F : FT) : Prop where
  pt : PT X e (tDT X.K W F)
structure DW (X : Cx) (W : WX) (e : Expr) (F : FT) : Prop where
  pw : PW X e (tDT X.K W F)
structure DA (X : Cx) (W : WX) (es : List Expr) (F : FA) : Prop where
  pa : PA X es (tDA X.K W F)
structure DS (X : Cx) (W : WX) (mask : List Bool) (st : Stmt) (F : FS) : Prop where
  ps : PS X st (tDS X.K W mask F)
structure DSs (X : Cx) (W : WX) (mask : List Bool) (st : List Stmt) (F : FS) : Prop where
  ps : PSs X st (tDS X.K W mask F)

section
variable {X : Cx} {W : WX}
theorem pe_le {e : Expr} {t t' : TE} (h : PE X e t) (k : ∀ σ H Q, t' σ H Q → t σ H Q) : PE X e t' := ⟨fun pins s σ H Q I q => h.run pins s σ H Q I (k σ H Q q)⟩
theorem pt_le {e : Expr} {t t' : TT} (h : PT X e t) (k : ∀ σ H Q, t' σ H Q → t σ H Q) : PT X e t' := ⟨fun pins s σ H Q I q => h.run pins s σ H Q I (k σ H Q q)⟩
theorem pw_le {e : Expr} {t t' : TT} (h : PW X e t) (k : ∀ σ H Q, t' σ H Q → t σ H Q) : PW X e t' := ⟨fun w pins s σ H Q I q => h.run w pins s σ H Q I (k σ H Q q)⟩
theorem pa_le {e : List Expr} {t t' : TA} (h : PA X e t) (k : ∀ σ H Q, t' σ H Q → t σ H Q) : PA X e t' := ⟨fun p pins s σ H Q I q => h.run p pins s σ H Q I (k σ H Q q)⟩
theorem ps_le {e : Stmt} {t t' : TS} (h : PS X e t) (k : ∀ D σ H, t' D σ H → t D σ H) : PS X e t' := ⟨fun pins s σ H D I q => h.run pins s σ H D I (k D σ H q)⟩
theorem pss_le {e : List Stmt} {t t' : TS} (h : PSs X e t) (k : ∀ D σ H, t' D σ H → t D σ H) : PSs X e t' := ⟨fun pins s σ H D I q => h.run pins s σ H D I (k D σ H q)⟩

/-! ### what an own object is worth as data -/
def asD (m : M) (k : D → Prop) : Prop := match m with
  | .v d => k d
  | .gone => False
  | .ml ds => k (.lst ds)
  | .mk ks ds => k (.dK ks ds)
  | .mt ks ds => k (.dT ks ds)
  | .mo C ns ms => chk (fzoks ms) (k (.obj C ns (fzs ms)))
  | .mkm ks ms => chk (fzoks ms) (k (.dK ks (fzs ms)))
theorem asD.ok {m : M} {k : D → Prop} (h : asD m k) : fzok m = true ∧ k (fz m) := by
  cases m with
  | v d => exact ⟨rfl, h⟩
  | gone => exact h.elim
  | ml ds => exact ⟨rfl, h⟩
  | mk ks ds => exact ⟨rfl, h⟩
  | mt ks ds => exact ⟨rfl, h⟩
  | mo C ns ms => exact chk.ok h
  | mkm ks ms => exact chk.ok h
theorem RS.asD {K : PySem.W.Frag} {H : Hp} {x : Option V} {m : M} {k : D → Prop} {L : List Pr} (h : RS K H ((x, m) :: L)) (z : asD m k) : ∃ d, k d ∧ RS K H ((x, .v d) :: L) := ⟨_, z.ok.2, h.freeze z.ok.1⟩

/-! ### names, constants -/
/-- .. states at once: each step leaves a list written out -/
def setK : List M → Nat → M → (List M → Prop) → Prop
  | [], _, _, k => k []
  | _ :: r, 0, m, k => k (m :: r)
  | a :: r, i + 1, m, k => setK r i m fun r' => k (a :: r')
theorem setK_eq : ∀ (S : List M) (i : Nat) (m : M) (k : List M → Prop), setK S i m k = k (S.set i m)
  | [], _, _, _ => rfl
  | _ :: _, 0, _, _ => rfl
  | a :: r, i + 1, m, k => setK_eq r i m _
def getK : List M → Nat → (M → Prop) → Prop → Prop
  | [], _, _, z => z
  | m :: _, 0, k, _ => k m
  | _ :: r, i + 1, k, z => getK r i k z
theorem getK_some : ∀ {S : List M} {i : Nat} {m : M} {k : M → Prop} {z : Prop}, S[i]? = some m → getK S i k z = k m
  | [], _, _, _, _, h => nomatch h
  | _ :: _, 0, _, _, _, h => by cases h; rfl
  | _ :: r, i + 1, _, _, _, h => getK_some (S := r) (i := i) h
theorem getK_none : ∀ {S : List M} {i : Nat} {k : M → Prop} {z : Prop}, S[i]? = none → getK S i k z = z
  | [], _, _, _, _ => rfl
  | _ :: _, 0, _, _, h => nomatch h
  | _ :: r, i + 1, _, _, h => getK_none (S := r) (i := i) h
def fV (i : Nat) : FE := fun S R _ => getK S i (fun m => match m with
  | .v d => R (.v d) S
  | m => chk (fzok m) (setK S i (.v (fz m)) fun S' => R (.v (fz m)) S')) False
/-- .. moved out -/
def fMv (i : Nat) : FE := fun S R _ => getK S i (fun m => match m with
  | .v d => R (.v d) S
  | .gone => False
  | m => setK S i .gone fun S' => R m S') False
def fC (d : D) : FE := fun S R _ => R (.v d) S
theorem RM.some_of {K : PySem.W.Frag} {H : Hp} {O : List Addr} {x : Option V} {m : M} {fp : List Addr} (h : RM K H O x m fp) (n : m ≠ .gone) : ∃ v, x = some v := by
  cases h with
  | gone x => exact absurd rfl n
  | v h => exact ⟨_, rfl⟩
  | ml h r => exact ⟨_, rfl⟩
  | mk h e r => exact ⟨_, rfl⟩
  | mt h e r => exact ⟨_, rfl⟩
  | mo h e l r => exact ⟨_, rfl⟩
  | mkm h e l r => exact ⟨_, rfl⟩
theorem RS.some_of {K : PySem.W.Frag} {H : Hp} {x : Option V} {m : M} {L : List Pr} (h : RS K H ((x, m) :: L)) (n : m ≠ .gone) : ∃ v, x = some v := by
  obtain ⟨fp, f2, _, r, _⟩ := h.opn
  exact r.some_of n
/-- the slot's content is frozen in its place, and had -/
theorem RS.fzAt {K : PySem.W.Frag} {H : Hp} {G : List Pr} {σ : L2.St} {S : List M} {i : Nat} {m : M} (rs : RS K H (G ++ σ.zip S)) (l : σ.length = S.length) (e : S[i]? = some m) (z : fzok m = true) :
    ∃ v, σ[i]? = some (some v) ∧ RS K H ((some v, .v (fz m)) :: (G ++ σ.zip (S.set i (.v (fz m))))) := by
  obtain ⟨x, e1, r1⟩ := rs.take l e
  have r2 := (r1.freeze z).dup
  obtain ⟨v, rfl⟩ := r2.some_of (fun h => nomatch h)
  have r3 : RS K H ((some v, .v (fz m)) :: (((some v, .v (fz m)) :: G) ++ σ.zip (S.set i .gone))) := r2
  have r4 := RS.back r3 (by rw [List.length_set]; exact l) e1
  rw [set_set'] at r4
  exact ⟨v, e1, r4⟩
theorem de_v (i : Nat) {x : Str} {pos : Pos} (hN : X.N[i]? = some x := by rfl) (hv : Vis X.env.scope x := by first | exact Or.inl rfl | exact Or.inr (Or.inl rfl) | exact Or.inr (Or.inr rfl)) (hd : (x == ("__debug__" : Str)) = false := by decide)
    (hcd : (x == ("__classdict__" : Str)) = false := by decide) : DE X W (.Name x pos) (fV i) := ⟨pe_le (pe_var hN hv hd hcd) fun σ H Q h => by
  obtain ⟨G, S, R, XR, l, rs, hF, hQ, hX⟩ := h
  cases e : S[i]? with
  | none => simp only [fV, getK_none e] at hF
  | some m =>
    have go : chk (fzok m) (R (.v (fz m)) (S.set i (.v (fz m)))) → tVar i σ H Q := fun h => by
      have h := h.ok
      obtain ⟨v, e1, r⟩ := rs.fzAt l e h.1
      exact ⟨v, e1, hQ _ _ v H (by rw [List.length_set]; exact l) h.2 r⟩
    cases m with
    | v d =>
      simp only [fV, getK_some e, setK_eq] at hF
      obtain ⟨v, e1, r⟩ := rs.copy l e
      exact ⟨v, e1, hQ _ _ v H l hF r⟩
    | gone => simp only [fV, getK_some e, setK_eq] at hF; exact go hF
    | ml ds => simp only [fV, getK_some e, setK_eq] at hF; exact go hF
    | mk ks ds => simp only [fV, getK_some e, setK_eq] at hF; exact go hF
    | mt ks ds => simp only [fV, getK_some e, setK_eq] at hF; exact go hF
    | mo C ns ms => simp only [fV, getK_some e, setK_eq] at hF; exact go hF
    | mkm ks ms => simp only [fV, getK_some e, setK_eq] at hF; exact go hF⟩
theorem de_mv (i : Nat) {x : Str} {pos : Pos} (hN : X.N[i]? = some x := by rfl) (hv : Vis X.env.scope x := by first | exact Or.inl rfl | exact Or.inr (Or.inl rfl) | exact Or.inr (Or.inr rfl)) (hd : (x == ("__debug__" : Str)) = false := by decide)
    (hcd : (x == ("__classdict__" : Str)) = false := by decide) : DE X W (.Name x pos) (fMv i) := ⟨pe_le (pe_var hN hv hd hcd) fun σ H Q h => by
  obtain ⟨G, S, R, XR, l, rs, hF, hQ, hX⟩ := h
  cases e : S[i]? with
  | none => simp only [fMv, getK_none e] at hF
  | some m =>
    have go : m ≠ .gone → R m (S.set i .gone) → tVar i σ H Q := fun n h => by
      obtain ⟨x, e1, r⟩ := rs.take l e
      obtain ⟨v, rfl⟩ := r.some_of n
      exact ⟨v, e1, hQ _ _ v H (by rw [List.length_set]; exact l) h r⟩
    cases m with
    | v d =>
      simp only [fMv, getK_some e, setK_eq] at hF
      obtain ⟨v, e1, r⟩ := rs.copy l e
      exact ⟨v, e1, hQ _ _ v H l hF r⟩
    | gone => simp only [fMv, getK_some e, setK_eq] at hF
    | ml ds => simp only [fMv, getK_some e, setK_eq] at hF; exact go (fun h => nomatch h) hF
    | mk ks ds => simp only [fMv, getK_some e, setK_eq] at hF; exact go (fun h => nomatch h) hF
    | mt ks ds => simp only [fMv, getK_some e, setK_eq] at hF; exact go (fun h => nomatch h) hF
    | mo C ns ms => simp only [fMv, getK_some e, setK_eq] at hF; exact go (fun h => nomatch h) hF
    | mkm ks ms => simp only [fMv, getK_some e, setK_eq] at hF; exact go (fun h => nomatch h) hF⟩
theorem tD_const {v : V} {d : D} (f : ∀ (K : PySem.W.Frag) (H : Hp) O, RD K H O v d) {σ : L2.St} {H : Hp} {Q : VK} (h : tD X.K W (fC d) σ H Q) : tC v σ H Q := by
  obtain ⟨G, S, R, XR, l, rs, hF, hQ, hX⟩ := h
  exact hQ _ _ v H l hF (rs.data fun O => f _ _ O)
theorem de_int {i : Int} {j : Nat} {pos : Pos} : DE X W (.Constant (.int i) j pos) (fC (.int i)) := ⟨pe_le pe_int fun σ H Q h => tD_const (fun _ _ _ => .int i) h⟩
theorem de_bl {b : Bool} {j : Nat} {pos : Pos} : DE X W (.Constant (.bool b) j pos) (fC (.bl b)) := ⟨pe_le pe_bl fun σ H Q h => tD_const (fun _ _ _ => .bl b) h⟩
theorem de_non {j : Nat} {pos : Pos} : DE X W (.Constant .none j pos) (fC .non) := ⟨pe_le pe_non fun σ H Q h => tD_const (fun _ _ _ => .non) h⟩
theorem de_str {x : Str} {j : Nat} {pos : Pos} : DE X W (.Constant (.str x) j pos) (fC (.str x)) := ⟨pe_le pe_str fun σ H Q h => tD_const (fun _ _ _ => .str x) h⟩
theorem de_glob {x : Str} {v : V} {d : D} {u : Value} {pos : Pos} (hg : Gl X x) (hm : X.mg x = some u) (r : RelV v u) (f : ∀ (K : PySem.W.Frag) (H : Hp) O, RD K H O v d) (hd : (x == ("__debug__" : Str)) = false := by decide) :
    DE X W (.Name x pos) (fC d) := ⟨pe_le (pe_glob hg hm r hd) fun σ H Q h => tD_const f h⟩
theorem de_bltn {x : Str} {n : String} {pos : Pos} (hg : Gl X x) (hm : X.mg x = none) (hv : bootBuiltins x = some (.type n)) (hn : x ≠ "__name__" := by decide) (hd : (x == ("__debug__" : Str)) = false := by decide) :
    DE X W (.Name x pos) (fC (.ty n)) := ⟨pe_le (pe_bltn (v := .ty n) hg hm hv rfl hn hd) fun σ H Q h => tD_const (fun _ _ _ => .ty n) h⟩

/-! ### operands: a value, or a name whose content is lent -/
inductive Ar where
  | m (m : M) | n (i : Nat) | f (i : Nat) (f : Str) (l : Addr) (m : M)
def arM : Ar → M
  | .m m => m
  | .n _ => .gone
  | .f _ _ _ m => m
def ArOk (σ : L2.St) (a : Ar) (v : V) : Prop := match a with
  | .m _ => True
  | .n i => σ[i]? = some (some v)
  | .f _ _ l _ => v = .ref l
def ArsOk (σ : L2.St) : List Ar → List V → Prop
  | [], [] => True
  | a :: as, v :: vs => ArOk σ a v ∧ ArsOk σ as vs
  | _, _ => False
abbrev FO := List M → (Ar → List M → Prop) → XM → Prop
abbrev FOs := List M → (List Ar → List M → Prop) → XM → Prop
def tDO (K : PySem.W.Frag) (W : WX) (F : FO) : TE := fun σ H Q => ∃ (G : List Pr) (S : List M) (R : Ar → List M → Prop) (XR : XM), σ.length = S.length ∧ RS K H (G ++ σ.zip S) ∧ F S R XR ∧
  (∀ a S' v H', σ.length = S'.length → R a S' → ArOk σ a v → RS K H' ((some v, arM a) :: (G ++ σ.zip S')) → Q v H') ∧
  (∀ c fs S' d H', σ.length = S'.length → XR (c, fs) S' → XOk K H' d fs (G ++ σ.zip S') → W c d σ H')
def tDOs (K : PySem.W.Frag) (W : WX) (F : FOs) : TA := fun σ H Q => ∃ (G : List Pr) (S : List M) (R : List Ar → List M → Prop) (XR : XM), σ.length = S.length ∧ RS K H (G ++ σ.zip S) ∧ F S R XR ∧
  (∀ as S' vs H', σ.length = S'.length → R as S' → ArsOk σ as vs → RS K H' ((vs.map some).zip (as.map arM) ++ (G ++ σ.zip S')) → Q vs H') ∧
  (∀ c fs S' d H', σ.length = S'.length → XR (c, fs) S' → XOk K H' d fs (G ++ σ.zip S') → W c d σ H')
structure DO (X : Cx) (W : WX) (e : Expr) (F : FO) : Prop where
  pe : PE X e (tDO X.K W F)
structure DOs (X : Cx) (W : WX) (es : List Expr) (F : FOs) : Prop where
  pa : PA X es (tDOs X.K W F)
def oM (F : FE) : FO := fun S R XR => F S (fun m S' => R (.m m) S') XR
def hasAt (i : Nat) (S : List M) : Prop := match S[i]? with
  | some .gone => False
  | some _ => True
  | none => False
def oN (i : Nat) : FO := fun S R _ => match S[i]? with
  | some .gone => False
  | some _ => R (.n i) S
  | none => False
theorem do_m {e : Expr} {F : FE} (h : DE X W e F) : DO X W e (oM F) := ⟨pe_le h.pe fun σ H Q h => by
  obtain ⟨G, S, R, XR, l, rs, hF, hQ, hX⟩ := h
  exact ⟨G, S, _, XR, l, rs, hF, fun m S' v H' l' r rs' => hQ (.m m) S' v H' l' r trivial rs', hX⟩⟩
theorem hasAt.get {i : Nat} {S : List M} (h : hasAt i S) : ∃ m, S[i]? = some m ∧ m ≠ .gone := by
  unfold hasAt at h
  cases e : S[i]? with
  | none => rw [e] at h; exact False.elim h
  | some m =>
    refine ⟨m, rfl, fun z => ?_⟩
    subst z
    rw [e] at h
    exact h
theorem do_n (i : Nat) {x : Str} {pos : Pos} (hN : X.N[i]? = some x := by rfl) (hv : Vis X.env.scope x := by first | exact Or.inl rfl | exact Or.inr (Or.inl rfl) | exact Or.inr (Or.inr rfl)) (hd : (x == ("__debug__" : Str)) = false := by decide)
    (hcd : (x == ("__classdict__" : Str)) = false := by decide) : DO X W (.Name x pos) (oN i) := ⟨pe_le (pe_var hN hv hd hcd) fun σ H Q h => by
  obtain ⟨G, S, R, XR, l, rs, hF, hQ, hX⟩ := h
  have hG : hasAt i S ∧ R (.n i) S := by
    unfold oN at hF
    unfold hasAt
    split at hF
    · exact hF.elim
    · exact ⟨trivial, hF⟩
    · exact hF.elim
  obtain ⟨m, e, n⟩ := hG.1.get
  obtain ⟨x, e1, r⟩ := rs.take l e
  obtain ⟨v, rfl⟩ := r.some_of n
  exact ⟨v, e1, hQ (.n i) S v H l hG.2 e1 (rs.add0 _)⟩⟩
def osNil : FOs := fun S R _ => R [] S
def osCons (fa : FO) (fr : FOs) : FOs := fun S R XR => fa S (fun a S1 => fr S1 (fun as S2 => R (a :: as) S2) XR) XR
theorem dos_nil : DOs X W [] osNil := ⟨pa_le pa_nil fun σ H Q h => by
  obtain ⟨G, S, R, XR, l, rs, hF, hQ, hX⟩ := h
  exact hQ [] S [] H l hF trivial rs⟩
theorem dos_cons {e : Expr} {es : List Expr} {fa : FO} {fr : FOs} (ha : DO X W e fa) (hr : DOs X W es fr) (hs : starEach (e :: es) X.env = (false, eval e X.env) :: starEach es X.env := by rfl) : DOs X W (e :: es) (osCons fa fr) :=
  ⟨pa_le (pa_cons ha.pe hr.pa hs) fun σ H Q h => by
    obtain ⟨G, S, R, XR, l, rs, hF, hQ, hX⟩ := h
    refine ⟨G, S, _, XR, l, rs, hF, fun a S1 v H1 l1 h1 ok1 rs1 => ?_, hX⟩
    refine ⟨(some v, arM a) :: G, S1, _, XR, l1, rs1, h1, fun as S2 vs H2 l2 h2 ok2 rs2 => ?_, fun c fs S' d H' l' hx xo => hX c fs S' d H' l' hx xo.drop⟩
    refine hQ (a :: as) S2 (v :: vs) H2 l2 h2 ⟨ok1, ok2⟩ ?_
    exact RS.perm (perm_mid _ _ _) rs2⟩

/-! ### lending -/
def takeA : List Ar → List M → List M × List M
  | [], S => ([], S)
  | .m m :: as, S => (m :: (takeA as S).1, (takeA as S).2)
  | .n i :: as, S => match (takeA as S).2[i]? with
    | some (.v d) => (.v d :: (takeA as S).1, (takeA as S).2)
    | some m => (m :: (takeA as S).1, (takeA as S).2.set i .gone)
    | none => (.gone :: (takeA as S).1, (takeA as S).2)
  | .f _ _ _ m :: as, S => (m :: (takeA as S).1, (takeA as S).2)
/-- a field's content, back in its place -/
def giveF (i : Nat) (f : Str) (l : Addr) (m : M) (S : List M) : List M := match S[i]? with
  | some (.mo C ns xs) => match fAt f ns xs with
    | some (.v (.ptr l')) => if l' = l then S.set i (.mo C ns (fSet f m ns xs)) else S
    | _ => S
  | _ => S
theorem giveF_len {i : Nat} {f : Str} {l : Addr} {m : M} {S : List M} : (giveF i f l m S).length = S.length := by
  unfold giveF
  split
  · split
    · split
      · exact List.length_set
      · rfl
    · rfl
  · rfl
def giveA : List Ar → List M → List M → List M
  | .m _ :: as, _ :: ms, S => giveA as ms S
  | .n i :: as, m :: ms, S => match (giveA as ms S)[i]? with
    | some .gone => (giveA as ms S).set i m
    | _ => giveA as ms S
  | .f i f l _ :: as, m :: ms, S => giveF i f l m (giveA as ms S)
  | _, _, S => S
theorem takeA_len : ∀ (as : List Ar) (S : List M), (takeA as S).1.length = as.length ∧ (takeA as S).2.length = S.length
  | [], S => ⟨rfl, rfl⟩
  | .m m :: as, S => ⟨congrArg (· + 1) (takeA_len as S).1, (takeA_len as S).2⟩
  | .n i :: as, S => by
    have h := takeA_len as S
    unfold takeA
    split
    · exact ⟨congrArg (· + 1) h.1, h.2⟩
    · exact ⟨congrArg (· + 1) h.1, by rw [List.length_set]; exact h.2⟩
    · exact ⟨congrArg (· + 1) h.1, h.2⟩
  | .f _ _ _ m :: as, S => ⟨congrArg (· + 1) (takeA_len as S).1, (takeA_len as S).2⟩
theorem giveA_len : ∀ (as : List Ar) (ms S : List M), (giveA as ms S).length = S.length
  | [], ms, S => by unfold giveA; rfl
  | .m m :: as, [], S => by unfold giveA; rfl
  | .n i :: as, [], S => by unfold giveA; rfl
  | .f i f l m :: as, [], S => by unfold giveA; rfl
  | .f i f l m :: as, m' :: ms, S => by
    unfold giveA
    rw [giveF_len]
    exact giveA_len as ms S
  | .m m :: as, m' :: ms, S => by unfold giveA; exact giveA_len as ms S
  | .n i :: as, m' :: ms, S => by
    have h := giveA_len as ms S
    unfold giveA
    split
    · rw [List.length_set]; exact h
    · exact h
theorem RS.takeA {K : PySem.W.Frag} {H : Hp} {σ : L2.St} {S : List M} (l : σ.length = S.length) : ∀ {as : List Ar} {vs : List V} {G : List Pr}, ArsOk σ as vs → RS K H ((vs.map some).zip (as.map arM) ++ (G ++ σ.zip S)) →
    RS K H ((vs.map some).zip (takeA as S).1 ++ (G ++ σ.zip (takeA as S).2))
  | [], [], G, _, h => h
  | [], _ :: _, G, ok, _ => False.elim ok
  | _ :: _, [], G, ok, _ => False.elim ok
  | .m m :: as, v :: vs, G, ok, h => by
    have h1 : RS K H ((vs.map some).zip (as.map arM) ++ (((some v, m) :: G) ++ σ.zip S)) := RS.perm (perm_mid _ _ _).symm h
    have h2 := RS.takeA l (as := as) (vs := vs) ok.2 h1
    exact RS.perm (perm_mid _ _ _) h2
  | .f _ _ _ m :: as, v :: vs, G, ok, h => by
    have h1 : RS K H ((vs.map some).zip (as.map arM) ++ (((some v, m) :: G) ++ σ.zip S)) := RS.perm (perm_mid _ _ _).symm h
    have h2 := RS.takeA l (as := as) (vs := vs) ok.2 h1
    exact RS.perm (perm_mid _ _ _) h2
  | .n i :: as, v :: vs, G, ok, h => by
    have h1 : RS K H ((vs.map some).zip (as.map arM) ++ (G ++ σ.zip S)) := h.drop
    have h2 := RS.takeA l (as := as) (vs := vs) ok.2 h1
    have l2 : σ.length = (DM.takeA as S).2.length := l.trans (takeA_len as S).2.symm
    have hv : σ[i]? = some (some v) := ok.1
    rw [← List.append_assoc] at h2
    unfold DM.takeA
    split
    · rename_i d e
      obtain ⟨v', e1, r⟩ := RS.copy h2 l2 e
      rw [hv] at e1
      cases e1
      rw [List.append_assoc] at r
      exact r
    · rename_i m nv e
      obtain ⟨x, e1, r⟩ := RS.take h2 l2 e
      rw [hv] at e1
      cases e1
      rw [List.append_assoc] at r
      exact r
    · rw [List.append_assoc] at h2
      exact h2.add0 _
theorem RS.giveF {K : PySem.W.Frag} {H : Hp} {σ : L2.St} {S : List M} (l : σ.length = S.length) {i : Nat} {f : Str} {p : Addr} {m : M} {G : List Pr} (h : RS K H ((some (.ref p), m) :: (G ++ σ.zip S))) : RS K H (G ++ σ.zip (giveF i f p m S)) := by
  unfold DM.giveF
  split
  · rename_i C ns xs e
    split
    · rename_i p' e2
      split
      · rename_i ep
        subst ep
        have h0 : RS K H (((some (.ref p'), m) :: G) ++ σ.zip S) := h
        obtain ⟨x, e1, r⟩ := RS.take h0 l e
        have r2 : RS K H ((some (.ref p'), m) :: (x, .mo C ns xs) :: (G ++ σ.zip (S.set i .gone))) := RS.swap r
        have r3 := r2.unpinF e2
        have r4 := RS.back r3 (by rw [List.length_set]; exact l) e1
        rw [set_set'] at r4
        exact r4
      · exact h.drop
    · exact h.drop
  · exact h.drop
theorem RS.giveA {K : PySem.W.Frag} {H : Hp} {σ : L2.St} {S : List M} (l : σ.length = S.length) : ∀ {as : List Ar} {vs : List V} {ms : List M} {G : List Pr}, ArsOk σ as vs → RS K H ((vs.map some).zip ms ++ (G ++ σ.zip S)) →
    RS K H (G ++ σ.zip (giveA as ms S))
  | [], [], ms, G, _, h => by unfold DM.giveA; exact h
  | [], _ :: _, ms, G, ok, _ => False.elim ok
  | _ :: _, [], ms, G, ok, _ => False.elim ok
  | .m m :: as, v :: vs, [], G, ok, h => by unfold DM.giveA; exact h
  | .n i :: as, v :: vs, [], G, ok, h => by unfold DM.giveA; exact h
  | .f i f p m :: as, v :: vs, [], G, ok, h => by unfold DM.giveA; exact h
  | .f i f p m :: as, v :: vs, m' :: ms, G, ok, h => by
    have ev : v = .ref p := ok.1
    subst ev
    have h1 : RS K H ((vs.map some).zip ms ++ (((some (.ref p), m') :: G) ++ σ.zip S)) := RS.perm (perm_mid _ _ _).symm h
    have h2 := RS.giveA l (as := as) (vs := vs) (ms := ms) ok.2 h1
    unfold DM.giveA
    exact RS.giveF (l.trans (giveA_len as ms S).symm) h2
  | .m m :: as, v :: vs, m' :: ms, G, ok, h => by
    unfold DM.giveA
    exact RS.giveA l (as := as) ok.2 h.drop
  | .n i :: as, v :: vs, m' :: ms, G, ok, h => by
    have hv : σ[i]? = some (some v) := ok.1
    have h1 : RS K H ((vs.map some).zip ms ++ (((some v, m') :: G) ++ σ.zip S)) := RS.perm (perm_mid _ _ _).symm h
    have h2 := RS.giveA l (as := as) (vs := vs) (ms := ms) ok.2 h1
    unfold DM.giveA
    split
    · exact RS.back h2 (l.trans (giveA_len as ms S).symm) hv
    · exact h2.drop

/-! ### operations by values -/
/-- what an operation does with its operands: its value, the operands behind it -/
abbrev BM := List M → RMx → Prop
def takeK : List Ar → List M → (List M → List M → Prop) → Prop
  | [], S, k => k [] S
  | .m m :: as, S, k => takeK as S fun ms S' => k (m :: ms) S'
  | .n i :: as, S, k => takeK as S fun ms S' => getK S' i (fun m => match m with
    | .v d => k (.v d :: ms) S'
    | m => setK S' i .gone fun S'' => k (m :: ms) S'') (k (.gone :: ms) S')
  | .f _ _ _ m :: as, S, k => takeK as S fun ms S' => k (m :: ms) S'
def fAtK (f : Str) : List Str → List M → (M → Prop) → Prop → Prop
  | n :: ns, m :: ms, k, z => match f == n with
    | true => k m
    | false => fAtK f ns ms k z
  | _, _, _, z => z
def fSetK (f : Str) (y : M) : List Str → List M → (List M → Prop) → Prop
  | n :: ns, m :: ms, k => match f == n with
    | true => k (y :: ms)
    | false => fSetK f y ns ms fun ms' => k (m :: ms')
  | _, ms, k => k ms
theorem fAtK_eq {f : Str} : ∀ (ns : List Str) (ms : List M) (k : M → Prop) (z : Prop), fAtK f ns ms k z = (match fAt f ns ms with | some m => k m | none => z)
  | [], ms, k, z => by cases ms <;> rfl
  | n :: ns, [], k, z => rfl
  | n :: ns, m :: ms, k, z => by
    unfold fAtK fAt
    cases f == n with
    | true => rfl
    | false => exact fAtK_eq ns ms k z
theorem fSetK_eq {f : Str} {y : M} : ∀ (ns : List Str) (ms : List M) (k : List M → Prop), fSetK f y ns ms k = k (fSet f y ns ms)
  | [], ms, k => by cases ms <;> rfl
  | n :: ns, [], k => rfl
  | n :: ns, m :: ms, k => by
    unfold fSetK fSet
    cases f == n with
    | true => rfl
    | false => exact fSetK_eq ns ms _
def giveFK (i : Nat) (f : Str) (l : Addr) (m : M) (S : List M) (k : List M → Prop) : Prop := getK S i (fun x => match x with
  | .mo C ns xs => fAtK f ns xs (fun y => match y with
    | .v (.ptr l') => iteP (decide (l' = l)) (fSetK f m ns xs fun xs' => setK S i (.mo C ns xs') k) (k S)
    | _ => k S) (k S)
  | _ => k S) (k S)
theorem giveFK_eq {i : Nat} {f : Str} {l : Addr} {m : M} {S : List M} {k : List M → Prop} : giveFK i f l m S k = k (giveF i f l m S) := by
  unfold giveFK giveF
  cases e : S[i]? with
  | none => rw [getK_none e]
  | some x =>
    rw [getK_some e]
    cases x with
    | mo C ns xs =>
      simp only [fAtK_eq]
      cases e2 : fAt f ns xs with
      | none => rfl
      | some y =>
        cases y with
        | v d =>
          cases d with
          | ptr l' =>
            simp only [fSetK_eq, setK_eq]
            by_cases z : l' = l
            · rw [decide_eq_true z, iteP_t, if_pos z]
            · rw [decide_eq_false z, iteP_f, if_neg z]
          | _ => rfl
        | _ => rfl
    | _ => rfl
def giveK : List Ar → List M → List M → (List M → Prop) → Prop
  | .m _ :: as, _ :: ms, S, k => giveK as ms S k
  | .n i :: as, m :: ms, S, k => giveK as ms S fun S' => getK S' i (fun x => match x with
    | .gone => setK S' i m k
    | _ => k S') (k S')
  | .f i f l _ :: as, m :: ms, S, k => giveK as ms S fun S' => giveFK i f l m S' k
  | _, _, S, k => k S
theorem takeK_eq : ∀ (as : List Ar) (S : List M) (k : List M → List M → Prop), takeK as S k = k (takeA as S).1 (takeA as S).2
  | [], _, _ => rfl
  | .m m :: as, S, k => takeK_eq as S _
  | .f _ _ _ m :: as, S, k => takeK_eq as S _
  | .n i :: as, S, k => by
    unfold takeK takeA
    rw [takeK_eq as S]
    cases e : (takeA as S).2[i]? with
    | none => rw [getK_none e]
    | some m =>
      rw [getK_some e]
      cases m <;> first | rfl | (simp only [setK_eq])
theorem takeK_f (i : Nat) (f : Str) (l : Addr) (m : M) (as : List Ar) (S : List M) (k : List M → List M → Prop) : takeK (.f i f l m :: as) S k = takeK as S fun ms S' => k (m :: ms) S' := rfl
theorem giveK_eq : ∀ (as : List Ar) (ms S : List M) (k : List M → Prop), giveK as ms S k = k (giveA as ms S)
  | [], _, _, _ => by simp only [giveK, giveA]
  | .m _ :: _, [], _, _ => by simp only [giveK, giveA]
  | .n _ :: _, [], _, _ => by simp only [giveK, giveA]
  | .f _ _ _ _ :: _, [], _, _ => by simp only [giveK, giveA]
  | .f i f l m' :: as, m :: ms, S, k => by
    simp only [giveK, giveA]
    rw [giveK_eq as ms S, giveFK_eq]
  | .m _ :: as, _ :: ms, S, k => by
    simp only [giveK, giveA]
    exact giveK_eq as ms S k
  | .n i :: as, m :: ms, S, k => by
    simp only [giveK, giveA]
    rw [giveK_eq as ms S]
    cases e : (giveA as ms S)[i]? with
    | none => rw [getK_none e]
    | some x =>
      rw [getK_some e]
      cases x <;> first | rfl | (simp only [setK_eq])
def callB (b : BM) (as : List Ar) (S : List M) (R : RMx) : Prop := takeK as S fun ms S1 => b ms fun r ms' => giveK as ms' S1 fun S2 => R r S2
theorem callB_eq (b : BM) (as : List Ar) (S : List M) (R : RMx) : callB b as S R = b (takeA as S).1 fun r ms' => R r (giveA as ms' (takeA as S).2) := by
  unfold callB
  rw [takeK_eq]
  simp only [giveK_eq]
def rB (K : PySem.W.Frag) (b : BM) (vs : List V) (H : Hp) (Q : VK) : Prop := ∃ (L : List Pr) (ms : List M) (R : RMx), vs.length = ms.length ∧ RS K H ((vs.map some).zip ms ++ L) ∧ b ms R ∧
  ∀ r ms' v H', R r ms' → RS K H' ((some v, r) :: ((vs.map some).zip ms' ++ L)) → Q v H'
def r2B (K : PySem.W.Frag) (b : BM) : R2 := fun x y H Q => rB K b [x, y] H Q
def r1B (K : PySem.W.Frag) (b : BM) : V → Hp → VK → Prop := fun x H Q => rB K b [x] H Q
theorem ArsOk.len {σ : L2.St} : ∀ {as : List Ar} {vs : List V}, ArsOk σ as vs → vs.length = as.length
  | [], [], _ => rfl
  | [], _ :: _, h => False.elim h
  | _ :: _, [], h => False.elim h
  | _ :: as, _ :: vs, h => congrArg (· + 1) (ArsOk.len h.2)
theorem rB_of {K : PySem.W.Frag} {H : Hp} {σ : L2.St} {S : List M} {as : List Ar} {vs : List V} {G : List Pr} {b : BM} {R : RMx} {Q : VK} (l : σ.length = S.length) (ok : ArsOk σ as vs) (rs : RS K H ((vs.map some).zip (as.map arM) ++ (G ++ σ.zip S))) (hb : callB b as S R)
    (hQ : ∀ m S' v H', σ.length = S'.length → R m S' → RS K H' ((some v, m) :: (G ++ σ.zip S')) → Q v H') : rB K b vs H Q := by
  have h := RS.takeA l ok rs
  have tl := takeA_len as S
  rw [callB_eq] at hb
  refine ⟨G ++ σ.zip (takeA as S).2, (takeA as S).1, _, ok.len.trans tl.1.symm, h, hb, fun r ms' v H' hr hs => ?_⟩
  have hs2 : RS K H' ((vs.map some).zip ms' ++ (((some v, r) :: G) ++ σ.zip (takeA as S).2)) := RS.perm (perm_mid _ _ _).symm hs
  have h3 := RS.giveA (l.trans tl.2.symm) ok hs2
  exact hQ r _ v H' (l.trans (tl.2.symm.trans (giveA_len _ _ _).symm)) hr h3
def f2 (b : BM) (fa fb : FO) : FE := fun S R XR => fa S (fun a S1 => fb S1 (fun c S2 => callB b [a, c] S2 R) XR) XR
def f1 (b : BM) (fa : FO) : FE := fun S R XR => fa S (fun a S1 => callB b [a] S1 R) XR
def fB (b : BM) (fs : FOs) : FE := fun S R XR => fs S (fun as S1 => callB b as S1 R) XR
theorem tD_f2 {b : BM} {fa fb : FO} {K : PySem.W.Frag} {σ : L2.St} {H : Hp} {Q : VK} (h : tD K W (f2 b fa fb) σ H Q) : tOp (r2B K b) (tDO K W fa) (tDO K W fb) σ H Q := by
  obtain ⟨G, S, R, XR, l, rs, hF, hQ, hX⟩ := h
  refine ⟨G, S, _, XR, l, rs, hF, fun a S1 x H1 l1 hb ok1 rs1 => ?_, hX⟩
  refine ⟨(some x, arM a) :: G, S1, _, XR, l1, rs1, hb, fun b S2 y H2 l2 hc ok2 rs2 => ?_, fun c fs S' d H' l' hx xo => hX c fs S' d H' l' hx xo.drop⟩
  exact rB_of (as := [a, b]) (vs := [x, y]) l2 ⟨ok1, ok2, trivial⟩ rs2.swap hc hQ
theorem tD_f1 {b : BM} {fa : FO} {K : PySem.W.Frag} {σ : L2.St} {H : Hp} {Q : VK} (h : tD K W (f1 b fa) σ H Q) : tDO K W fa σ H (fun x H1 => r1B K b x H1 Q) := by
  obtain ⟨G, S, R, XR, l, rs, hF, hQ, hX⟩ := h
  exact ⟨G, S, _, XR, l, rs, hF, fun a S1 x H1 l1 hb ok1 rs1 => rB_of (as := [a]) (vs := [x]) l1 ⟨ok1, trivial⟩ rs1 hb hQ, hX⟩
theorem tD_fB {b : BM} {fs : FOs} {K : PySem.W.Frag} {σ : L2.St} {H : Hp} {Q : VK} (h : tD K W (fB b fs) σ H Q) : tDOs K W fs σ H (fun vs H1 => rB K b vs H1 Q) := by
  obtain ⟨G, S, R, XR, l, rs, hF, hQ, hX⟩ := h
  exact ⟨G, S, _, XR, l, rs, hF, fun as S1 vs H1 l1 hb ok1 rs1 => rB_of l1 ok1 rs1 hb hQ, hX⟩
theorem de_op {op : Operator} {g : BM} {a b : Expr} {fa fb : FO} {pos : Pos} (ho : OpR X (binaryOp op) (r2B X.K g)) (ha : DO X W a fa) (hb : DO X W b fb) : DE X W (.BinOp a op b pos) (f2 g fa fb) :=
  ⟨pe_le (pe_op ho ha.pe hb.pe) fun σ H Q h => tD_f2 h⟩
theorem de_un {op : UnaryOp} {g : BM} {a : Expr} {fa : FO} {pos : Pos} (ho : UnR X (unaryOp op) (r1B X.K g)) (ha : DO X W a fa) : DE X W (.UnaryOp op a pos) (f1 g fa) :=
  ⟨pe_le (pe_un ho ha.pe) fun σ H Q h => tD_f1 h⟩
theorem de_cmp {op : CmpOp} {g : BM} {a b : Expr} {fa fb : FO} {pos : Pos} (ho : OpR X (compareOp op) (r2B X.K g)) (ha : DO X W a fa) (hb : DO X W b fb) (hm : behindInMarks op b = false := by rfl) : DE X W (.Compare a [op] [b] pos) (f2 g fa fb) :=
  ⟨pe_le (pe_cmpR ho ha.pe hb.pe hm) fun σ H Q h => tD_f2 h⟩
theorem de_ix {g : BM} {a b : Expr} {fa fb : FO} {pos : Pos} (ho : IxR X (r2B X.K g)) (ha : DO X W a fa) (hb : DO X W b fb) (hs : PlainIx b := by exact fun _ _ => rfl) : DE X W (.Subscript a b pos) (f2 g fa fb) :=
  ⟨pe_le (pe_ix ho ha.pe hb.pe hs) fun σ H Q h => tD_f2 h⟩
theorem de_callB {id : String} {g : BM} {x : Str} {p pos : Pos} {e : Expr} {es : List Expr} {fs : FOs} (hc : CallR X (.builtin id) (rB X.K g)) (hg : Gl X x) (hm : X.mg x = none) (hv : bootBuiltins x = some (.builtin id)) (ha : DOs X W (e :: es) fs) (hn : x ≠ "__name__" := by decide) (hdb : (x == ("__debug__" : Str)) = false := by decide)
    (he : starEach (e :: es) X.env = (false, eval e X.env) :: starEach es X.env := by rfl) (hpl : (backTo pos (starEach es X.env)).any (·.1) = false := by rfl) : DE X W (.Call (.Name x p) (e :: es) [] pos) (fB g fs) :=
  ⟨pe_le (pe_callB hc hg hm hv ha.pa hn hdb he hpl) fun σ H Q h => tD_fB h⟩
theorem de_callTy {T : String} {g : BM} {x : Str} {p pos : Pos} {e : Expr} {es : List Expr} {fs : FOs} (hc : CallR X (.type T) (rB X.K g)) (hg : Gl X x) (hm : X.mg x = none) (hv : bootBuiltins x = some (.type T)) (ha : DOs X W (e :: es) fs) (hn : x ≠ "__name__" := by decide) (hdb : (x == ("__debug__" : Str)) = false := by decide)
    (he : starEach (e :: es) X.env = (false, eval e X.env) :: starEach es X.env := by rfl) (hpl : (backTo pos (starEach es X.env)).any (·.1) = false := by rfl) : DE X W (.Call (.Name x p) (e :: es) [] pos) (fB g fs) :=
  ⟨pe_le (pe_callTy hc hg hm hv ha.pa hn hdb he hpl) fun σ H Q h => tD_fB h⟩
/-- o.m(e, ..), m a method of a built-in type T -/
def fM (b : BM) (fo : FO) (fs : FOs) : FE := fun S R XR => fo S (fun a S1 => fs S1 (fun as S2 => callB b (a :: as) S2 R) XR) XR

/-! ### tests -/
def asB (m : M) (k : Bool → Prop) : Prop := match m with
  | .v (.bl b) => k b
  | _ => False
theorem RS.asB {K : PySem.W.Frag} {H : Hp} {v : V} {m : M} {k : Bool → Prop} {L : List Pr} (h : RS K H ((some v, m) :: L)) (z : asB m k) : ∃ b, v = .bl b ∧ k b := by
  cases m with
  | v d =>
    cases d with
    | bl b =>
      obtain ⟨fp, f2, _, r, _⟩ := h.opn
      cases r with
      | v r => cases r with | bl b => exact ⟨b, rfl, z⟩
    | _ => exact False.elim z
  | _ => exact False.elim z
/-- a value that is True or False, as a test -/
def tOf (F : FE) : FT := fun S R XR => F S (fun m S' => asB m fun b => R b S') XR
theorem tDT_of {F : FE} {K : PySem.W.Frag} {σ : L2.St} {H : Hp} {Q : Bool → Hp → Prop} (h : tDT K W (tOf F) σ H Q) : tTest (tD K W F) σ H Q := by
  obtain ⟨G, S, R, XR, l, rs, hF, hQ, hX⟩ := h
  refine ⟨G, S, _, XR, l, rs, hF, fun a S1 x H1 l1 hb rs1 => ?_, hX⟩
  obtain ⟨b, e, k⟩ := RS.asB rs1 hb
  exact ⟨b, e, hQ b S1 H1 l1 k rs1.drop⟩
theorem dt_cmp {op : CmpOp} {g : BM} {a b : Expr} {fa fb : FO} {pos : Pos} (ho : OpR X (compareOp op) (r2B X.K g)) (ha : DO X W a fa) (hb : DO X W b fb) (hm : behindInMarks op b = false := by rfl) : DT X W (.Compare a [op] [b] pos) (tOf (f2 g fa fb)) :=
  ⟨pt_le (pt_cmpR ho ha.pe hb.pe hm) fun σ H Q h => by
    obtain ⟨G, S, R, XR, l, rs, hF, hQ, hX⟩ := h
    refine tD_f2 (W := W) ⟨G, S, _, XR, l, rs, hF, fun a S1 x H1 l1 hb rs1 => ?_, hX⟩
    obtain ⟨b, e, k⟩ := RS.asB rs1 hb
    exact ⟨b, e, hQ b S1 H1 l1 k rs1.drop⟩⟩
def truD (d : D) (k : Bool → Prop) : Prop := match d with
  | .non => k false
  | .bl b => k b
  | .int i => k (i != 0)
  | .str y => y.length ≤ sizeLine ∧ k ((y.length : Int) != 0)
  | .tup ds => k (!ds.isEmpty)
  | .lst ds => k (!ds.isEmpty)
  | .dK ks _ => k (!ks.isEmpty)
  | _ => False
def tTru (F : FE) : FT := fun S R XR => F S (fun m S' => asD m fun d => truD d fun b => R b S') XR
theorem RDs.isEmpty {K : PySem.W.Frag} {H : Hp} {O : List Addr} {vs : List V} {ds : List D} (r : RDs K H O vs ds) : vs.isEmpty = ds.isEmpty := by
  cases r <;> rfl
theorem tru_of {K : PySem.W.Frag} {H : Hp} {O : List Addr} {v : V} {d : D} {k : Bool → Prop} (h : RD K H O v d) (z : truD d k) : ∃ b, TruV K v H b ∧ k b := by
  cases h with
  | non => exact ⟨_, rfl, z⟩
  | bl b => exact ⟨_, rfl, z⟩
  | int i => exact ⟨_, rfl, z⟩
  | str x => exact ⟨_, ⟨z.1, rfl⟩, z.2⟩
  | ty n => exact False.elim z
  | ptr a => exact False.elim z
  | tup h r => exact ⟨_, .inr (.inl ⟨_, h.sq, rfl⟩), by rw [r.isEmpty]; exact z⟩
  | lst h r => exact ⟨_, .inl ⟨_, h.sq, rfl⟩, by rw [r.isEmpty]; exact z⟩
  | dK n h e r =>
    rename_i kvs ks ds
    refine ⟨!kvs.isEmpty, .inr (.inr ⟨_, h, rfl⟩), ?_⟩
    have z' : k (!ks.isEmpty) := z
    rw [← e] at z'
    cases kvs <;> exact z'
  | dT n h e r => exact False.elim z
  | obj n h e r => exact False.elim z
  | exc n h e r => exact False.elim z
end
end DM

/-! Operations over data. -/
namespace DM
open PySem PySem.Spec PyProof.Rows
open L2
variable [Tabs]

def lsV : M → Option (List D)
  | .v (.lst ds) => some ds
  | .ml ds => some ds
  | _ => none
def tpV : M → Option (List D)
  | .v (.tup ds) => some ds
  | _ => none
/-- a list or a tuple -/
def sqV : M → Option (List D)
  | .v (.lst ds) => some ds
  | .v (.tup ds) => some ds
  | .ml ds => some ds
  | _ => none
section
variable {K : PySem.W.Frag} {H : Hp} {O : List Addr} {x : Option V} {fp : List Addr}
theorem RM.ls {m : M} {ds : List D} (h : RM K H O x m fp) (e : lsV m = some ds) : ∃ a vs, x = some (.ref a) ∧ SqL K H a vs ∧ RDs K H O vs ds := by
  cases h with
  | v h =>
    cases h with
    | lst h r => cases e; exact ⟨_, _, rfl, h.sq, r⟩
    | _ => cases e
  | ml h r => cases e; exact ⟨_, _, rfl, .inl (.inl h), r⟩
  | _ => cases e
theorem RM.tp {m : M} {ds : List D} (h : RM K H O x m fp) (e : tpV m = some ds) : ∃ a vs, x = some (.ref a) ∧ SqT K H a vs ∧ RDs K H O vs ds := by
  cases h with
  | v h =>
    cases h with
    | tup h r => cases e; exact ⟨_, _, rfl, h.sq, r⟩
    | _ => cases e
  | _ => cases e
theorem RM.sq {m : M} {ds : List D} (h : RM K H O x m fp) (e : sqV m = some ds) : ∃ a vs, x = some (.ref a) ∧ (SqL K H a vs ∨ SqT K H a vs) ∧ RDs K H O vs ds := by
  cases h with
  | v h =>
    cases h with
    | tup h r => cases e; exact ⟨_, _, rfl, .inr h.sq, r⟩
    | lst h r => cases e; exact ⟨_, _, rfl, .inl h.sq, r⟩
    | _ => cases e
  | ml h r => cases e; exact ⟨_, _, rfl, .inl (.inl (.inl h)), r⟩
  | _ => cases e
theorem RM.int {i : Int} (h : RM K H O x (.v (.int i)) fp) : x = some (.int i) := by cases h with | v h => cases h; rfl
theorem RM.bl {i : Bool} (h : RM K H O x (.v (.bl i)) fp) : x = some (.bl i) := by cases h with | v h => cases h; rfl
theorem RM.str {i : Str} (h : RM K H O x (.v (.str i)) fp) : x = some (.str i) := by cases h with | v h => cases h; rfl
theorem RM.ty {i : String} (h : RM K H O x (.v (.ty i)) fp) : x = some (.ty i) := by cases h with | v h => cases h; rfl
theorem RM.non (h : RM K H O x (.v .non) fp) : x = some .non := by cases h with | v h => cases h; rfl
/-- a result with no object -/
theorem RS.val {L : List Pr} (rs : RS K H L) {v : V} {d : D} (f : ∀ O, RD K H O v d) : RS K H ((some v, .v d) :: L) := rs.data f
theorem RS.int {L : List Pr} (rs : RS K H L) (i : Int) : RS K H ((some (.int i), .v (.int i)) :: L) := rs.data fun _ => .int i
theorem RS.bl {L : List Pr} (rs : RS K H L) (i : Bool) : RS K H ((some (.bl i), .v (.bl i)) :: L) := rs.data fun _ => .bl i
theorem RS.str {L : List Pr} (rs : RS K H L) (i : Str) : RS K H ((some (.str i), .v (.str i)) :: L) := rs.data fun _ => .str i
theorem RS.two {x y : Option V} {a b : M} {L : List Pr} (rs : RS K H ((x, a) :: (y, b) :: L)) : ∃ O f1 f2 : List Addr, O.Nodup ∧ RM K H O x a f1 ∧ RM K H O y b f2 ∧ RL K H O ((x, a) :: (y, b) :: L) O := by
  obtain ⟨O, n, r⟩ := rs
  generalize hO : O = O' at r
  have r' := r
  cases r with
  | cons h1 r => cases r with | cons h2 r => subst hO; exact ⟨_, _, _, n, h1, h2, r'⟩
theorem RS.one {x : Option V} {a : M} {L : List Pr} (rs : RS K H ((x, a) :: L)) : ∃ O f1 : List Addr, O.Nodup ∧ RM K H O x a f1 ∧ RL K H O ((x, a) :: L) O := by
  obtain ⟨O, n, r⟩ := rs
  have r' := r
  generalize hO : O = O' at r'
  cases r' with
  | cons h1 r' => subst hO; exact ⟨_, _, n, h1, r⟩
end

section
variable {X : Cx}
/-- two ints to an int -/
def iiB (C : Int → Int → Prop) (g : Int → Int → Int) : BM := fun ms R => match ms with
  | [.v (.int i), .v (.int j)] => C i j ∧ R (.v (.int (g i j))) ms
  | _ => False
/-- .. without a condition -/
def iiB0 (g : Int → Int → Int) : BM := fun ms R => match ms with
  | [.v (.int i), .v (.int j)] => R (.v (.int (g i j))) ms
  | _ => False
def ibB (g : Int → Int → Bool) : BM := fun ms R => match ms with
  | [.v (.int i), .v (.int j)] => R (.v (.bl (g i j))) ms
  | _ => False
theorem two_of {α : Type} {xs : List α} (h : xs.length = 2) : ∃ a b, xs = [a, b] := match xs, h with | [a, b], _ => ⟨a, b, rfl⟩
theorem one_of {α : Type} {xs : List α} (h : xs.length = 1) : ∃ a, xs = [a] := match xs, h with | [a], _ => ⟨a, rfl⟩
theorem op_ii {f : Value → Value → Sem Value} {C C' : Int → Int → Prop} {g : Int → Int → Int} (ho : OpR X f (rI C fun i j => .int (g i j))) (hc : ∀ i j, C' i j → C i j) : OpR X f (r2B X.K (iiB C' g)) := by
  intro pins s σ H x y v u Q I rx ry h
  obtain ⟨L, ms, R, l, rs, hb, hQ⟩ := h
  unfold iiB at hb
  split at hb
  · rename_i i j
    obtain ⟨O, f1, f2, n, h1, h2, r⟩ := RS.two rs
    have e1 := h1.int
    have e2 := h2.int
    cases e1
    cases e2
    exact ho pins s σ H _ _ v u Q I rx ry ⟨i, j, rfl, rfl, hc _ _ hb.1, hQ _ _ _ H hb.2 (rs.int _)⟩
  · exact hb.elim
theorem op_ii0 {f : Value → Value → Sem Value} {g : Int → Int → Int} (ho : OpR X f (rI0 fun i j => .int (g i j))) : OpR X f (r2B X.K (iiB0 g)) := by
  intro pins s σ H x y v u Q I rx ry h
  obtain ⟨L, ms, R, l, rs, hb, hQ⟩ := h
  unfold iiB0 at hb
  split at hb
  · rename_i i j
    obtain ⟨O, f1, f2, n, h1, h2, r⟩ := RS.two rs
    have e1 := h1.int
    have e2 := h2.int
    cases e1
    cases e2
    exact ho pins s σ H _ _ v u Q I rx ry ⟨i, j, rfl, rfl, hQ _ _ _ H hb (rs.int _)⟩
  · exact hb.elim
theorem op_ib {f : Value → Value → Sem Value} {g : Int → Int → Bool} (ho : OpR X f (rI0 fun i j => .bl (g i j))) : OpR X f (r2B X.K (ibB g)) := by
  intro pins s σ H x y v u Q I rx ry h
  obtain ⟨L, ms, R, l, rs, hb, hQ⟩ := h
  unfold ibB at hb
  split at hb
  · rename_i i j
    obtain ⟨O, f1, f2, n, h1, h2, r⟩ := RS.two rs
    have e1 := h1.int
    have e2 := h2.int
    cases e1
    cases e2
    exact ho pins s σ H _ _ v u Q I rx ry ⟨i, j, rfl, rfl, hQ _ _ _ H hb (rs.bl _)⟩
  · exact hb.elim
def MulOk (i j : Int) : Prop := IntMulOk i j
def DivOk (j : Int) : Prop := 0 < j ∧ j.natAbs.log2 < 9000
theorem MulOk.right {i j : Int} (h1 : -(2 ^ 64) < j) (h2 : j < 2 ^ 64) : MulOk i j := .of_right (intBits_le_64 h1 h2)
theorem MulOk.left {i j : Int} (h1 : -(2 ^ 64) < i) (h2 : i < 2 ^ 64) : MulOk i j := .of_left (intBits_le_64 h1 h2)
theorem DivOk.small {j : Int} (h1 : 0 < j) (h2 : j < 2 ^ 64) : DivOk j := (wide_div (i := 0) h1 (b := 64) (by omega) (by decide) (by decide))
def C0 (_ _ : Int) : Prop := True
def subB : BM := fun ms R => match ms with
  | [.v (.int i), .v (.int j)] => R (.v (.int (i - j))) ms
  | _ => False
def mulB : BM := fun ms R => match ms with
  | [.v (.int i), .v (.int j)] => MulOk i j ∧ R (.v (.int (i * j))) ms
  | _ => False
def divB : BM := fun ms R => match ms with
  | [.v (.int i), .v (.int j)] => DivOk j ∧ R (.v (.int (i / j))) ms
  | _ => False
def modB : BM := fun ms R => match ms with
  | [.v (.int i), .v (.int j)] => 0 < j ∧ R (.v (.int (i % j))) ms
  | _ => False
def powB : BM := fun ms R => match ms with
  | [.v (.int i), .v (.int j)] => CPow i j ∧ R (.v (.int (i ^ j.toNat))) ms
  | _ => False
def shlB : BM := fun ms R => match ms with
  | [.v (.int i), .v (.int j)] => CPow i j ∧ R (.v (.int (i * 2 ^ j.toNat))) ms
  | _ => False
def shrB : BM := fun ms R => match ms with
  | [.v (.int i), .v (.int j)] => 0 ≤ j ∧ R (.v (.int (i / 2 ^ j.toNat))) ms
  | _ => False
def andB : BM := fun ms R => match ms with
  | [.v (.int i), .v (.int j)] => R (.v (.int (Builtin.bitAnd i j))) ms
  | _ => False
theorem rI_of0 {f : Value → Value → Sem Value} {g : Int → Int → Int} (ho : OpR X f (rI0 fun i j => .int (g i j))) : OpR X f (rI C0 fun i j => .int (g i j)) :=
  fun pins s σ H x y v u Q I rx ry ⟨i, j, a, b, _, q⟩ => ho pins s σ H x y v u Q I rx ry ⟨i, j, a, b, q⟩
theorem op_le2 {f : Value → Value → Sem Value} {b b' : BM} (h : ∀ ms R, b ms R → b' ms R) (ho : OpR X f (r2B X.K b')) : OpR X f (r2B X.K b) :=
  fun pins s σ H x y v u Q I rx ry ⟨L, ms, R, l, rs, hb, hQ⟩ => ho pins s σ H x y v u Q I rx ry ⟨L, ms, R, l, rs, h _ _ hb, hQ⟩
theorem o_sub : OpR X (binaryOp .Sub) (r2B X.K subB) := op_le2 (b' := iiB0 _) (fun ms R h => by unfold subB at h; unfold iiB0; split at h <;> first | exact h | exact h.elim) (op_ii0 op_sub)
theorem o_mul : OpR X (binaryOp .Mult) (r2B X.K mulB) := op_le2 (b' := iiB _ _) (fun ms R h => by unfold mulB at h; unfold iiB; split at h <;> first | exact h | exact h.elim) (op_ii (opI fun _ _ _ _ _ _ _ hc q => mul_int q hc) fun _ _ h => h)
theorem o_div : OpR X (binaryOp .FloorDiv) (r2B X.K divB) := op_le2 (b' := iiB _ _) (fun ms R h => by unfold divB at h; unfold iiB; split at h <;> first | exact h | exact h.elim) (op_ii op_fdivW fun _ _ h => h)
theorem o_mod : OpR X (binaryOp .Mod) (r2B X.K modB) := op_le2 (b' := iiB _ _) (fun ms R h => by unfold modB at h; unfold iiB; split at h <;> first | exact h | exact h.elim) (op_ii op_mod fun _ _ h => h)
theorem o_pow : OpR X (binaryOp .Pow) (r2B X.K powB) := op_le2 (b' := iiB _ _) (fun ms R h => by unfold powB at h; unfold iiB; split at h <;> first | exact h | exact h.elim) (op_ii op_pow fun _ _ h => h)
theorem o_shl : OpR X (binaryOp .LShift) (r2B X.K shlB) := op_le2 (b' := iiB _ _) (fun ms R h => by unfold shlB at h; unfold iiB; split at h <;> first | exact h | exact h.elim) (op_ii op_shl fun _ _ h => h)
theorem o_shr : OpR X (binaryOp .RShift) (r2B X.K shrB) := op_le2 (b' := iiB _ _) (fun ms R h => by unfold shrB at h; unfold iiB; split at h <;> first | exact h | exact h.elim) (op_ii op_shr fun _ _ h => h)
theorem o_and : OpR X (binaryOp .BitAnd) (r2B X.K andB) := op_le2 (b' := iiB0 _) (fun ms R h => by unfold andB at h; unfold iiB0; split at h <;> first | exact h | exact h.elim) (op_ii0 op_and)
def negB : BM := fun ms R => match ms with
  | [.v (.int i)] => R (.v (.int (-i))) ms
  | _ => False
theorem o_neg : UnR X (unaryOp .USub) (r1B X.K negB) := by
  intro pins s σ H x v Q I rx h
  obtain ⟨L, ms, R, l, rs, hb, hQ⟩ := h
  unfold negB at hb
  split at hb
  · obtain ⟨O, f1, n, h1, r⟩ := RS.one rs
    have e1 := h1.int
    cases e1
    exact un_neg pins s σ H _ v Q I rx ⟨_, rfl, hQ _ _ _ H hb (rs.int _)⟩
  · exact hb.elim
def ltB : BM := fun ms R => match ms with
  | [.v (.int i), .v (.int j)] => R (.v (.bl (decide (i < j)))) ms
  | _ => False
def leB : BM := fun ms R => match ms with
  | [.v (.int i), .v (.int j)] => R (.v (.bl (decide (i ≤ j)))) ms
  | _ => False
def gtB : BM := fun ms R => match ms with
  | [.v (.int i), .v (.int j)] => R (.v (.bl (decide (j < i)))) ms
  | _ => False
def geB : BM := fun ms R => match ms with
  | [.v (.int i), .v (.int j)] => R (.v (.bl (decide (j ≤ i)))) ms
  | _ => False
theorem o_lt : OpR X (compareOp .Lt) (r2B X.K ltB) := op_le2 (b' := ibB _) (fun ms R h => by unfold ltB at h; unfold ibB; split at h <;> first | exact h | exact h.elim) (op_ib op_lt)
theorem o_le : OpR X (compareOp .LtE) (r2B X.K leB) := op_le2 (b' := ibB _) (fun ms R h => by unfold leB at h; unfold ibB; split at h <;> first | exact h | exact h.elim) (op_ib op_le)
theorem o_gt : OpR X (compareOp .Gt) (r2B X.K gtB) := op_le2 (b' := ibB _) (fun ms R h => by unfold gtB at h; unfold ibB; split at h <;> first | exact h | exact h.elim) (op_ib op_gt)
theorem o_ge : OpR X (compareOp .GtE) (r2B X.K geB) := op_le2 (b' := ibB _) (fun ms R h => by unfold geB at h; unfold ibB; split at h <;> first | exact h | exact h.elim) (op_ib op_ge)

/-! ### + -/
def addB : BM := fun ms R => match ms with
  | [.v (.int i), .v (.int j)] => R (.v (.int (i + j))) ms
  | [.v (.str x), .v (.str y)] => x.length + y.length ≤ sizeLine ∧ R (.v (.str (x ++ y))) ms
  | [.v (.tup ds), .v (.tup es)] => ds.length + es.length ≤ sizeLine ∧ R (.v (.tup (ds ++ es))) ms
  | [a, b] => ∃ ds es, lsV a = some ds ∧ lsV b = some es ∧ ds.length + es.length ≤ sizeLine ∧ R (.ml (ds ++ es)) ms
  | _ => False
/-- two lists of any standing -/
theorem op_catL {pins : List (Addr × Obj)} {s : Shared} {σ : L2.St} {H : Hp} {Q : VK} {a b : Addr} {xs ys : List V} (I : Inv X pins σ H s) (ha : SqL X.K H a xs) (hb : SqL X.K H b ys) (hz : xs.length + ys.length ≤ sizeLine)
    (q : ∀ p, H p = none → Q (.ref p) (upd H p (.lst (xs ++ ys)))) : wpAny (model X.prog X.w) X.A (binaryOp .Add (.ref a) (.ref b)) (EP X pins σ Q) X.xe s := by
  obtain ⟨its, r, pl, z⟩ := I.list ha
  obtain ⟨its2, r2, pl2, z2⟩ := I.list hb
  have hl := r.length
  have hl2 := r2.length
  obtain ⟨⟨cls, dd, data, sl⟩, n, ho, hc, hdd, hd⟩ := pl
  obtain ⟨⟨cls2, dd2, data2, sl2⟩, n2, ho2, hc2, hdd2, hd2⟩ := pl2
  simp only at hc hd hc2 hd2
  subst hc hd hc2 hd2
  have e : its.toArray ++ its2.toArray = (its ++ its2).toArray := by simp
  refine concat_meets ⟨_, ho, rfl⟩ ⟨_, ho2, rfl⟩ noFill_list_add seq_list_add PySem.F.slot_list_add PySem.F.entry_list_add (PySem.F.args_list_add_2 _ _) (list_addW a b its.toArray its2.toArray n n2 dd dd2 sl sl2 (by rw [List.size_toArray, List.size_toArray]; omega)) ⟨ho, ho2, ?_⟩
  rw [e]
  exact ⟨.ref _, _, I.lnew (t' := s.toks) (r.append r2) (by rw [List.length_append]; omega), rfl, q _ I.fresh⟩
theorem o_add : OpR X (binaryOp .Add) (r2B X.K addB) := by
  intro pins s σ H x y v u Q I rx ry h
  obtain ⟨L, ms, R, l, rs, hb, hQ⟩ := h
  unfold addB at hb
  split at hb
  · rename_i i j
    obtain ⟨O, f1, f2, n, h1, h2, r⟩ := RS.two rs
    have e1 := h1.int
    have e2 := h2.int
    cases e1
    cases e2
    exact op_add pins s σ H _ _ v u Q I rx ry ⟨i, j, rfl, rfl, hQ _ _ _ H hb (rs.int _)⟩
  · rename_i i j
    obtain ⟨O, f1, f2, n, h1, h2, r⟩ := RS.two rs
    have e1 := h1.str
    have e2 := h2.str
    cases e1
    cases e2
    exact op_add_str pins s σ H _ _ v u Q I rx ry ⟨i, j, rfl, rfl, hb.1, hQ _ _ _ H hb.2 (rs.str _)⟩
  · rename_i ds es
    obtain ⟨O, f1, f2, n, h1, h2, r⟩ := RS.two rs
    obtain ⟨a, vs, e1, s1, r1⟩ := h1.tp rfl
    obtain ⟨b, ws, e2, s2, r2⟩ := h2.tp rfl
    cases e1
    cases e2
    refine op_catA pins s σ H _ _ v u Q I rx ry ⟨a, b, vs, ws, rfl, rfl, s1, s2, by rw [r1.length, r2.length]; exact hb.1, fun e => ?_, fun e e' => ?_, fun e e' p hp => ?_⟩
    · subst e
      cases r1
      refine hQ _ _ _ H hb.2 ?_
      have q := (RS.dup rs.swap)
      exact RS.perm (List.Perm.cons _ (.swap _ _ _)) q
    · subst e'
      cases r2
      have q := RS.dup rs
      rw [List.append_nil] at hb
      exact hQ _ _ _ H hb.2 q
    · exact hQ _ _ _ _ hb.2 (RS.newTup ⟨O, n, r1.append r2, r⟩ hp)
  · rename_i a b _ _ _
    obtain ⟨ds, es, e1, e2, z, hr⟩ := hb
    obtain ⟨O, f1, f2, n, h1, h2, r⟩ := RS.two rs
    obtain ⟨a, vs, e3, s1, r1⟩ := h1.ls e1
    obtain ⟨b, ws, e4, s2, r2⟩ := h2.ls e2
    cases e3
    cases e4
    cases rx
    cases ry
    exact op_catL I s1 s2 (by rw [r1.length, r2.length]; exact z) fun p hp => hQ _ _ _ _ hr (RS.newLst ⟨O, n, r1.append r2, r⟩ hp)
  · exact hb.elim

/-! ### equality -/
mutual
def pyD : D → Option PyData
  | .non => some .none
  | .bl b => some (.bool b)
  | .int i => some (.int i)
  | .str x => some (.str x)
  | .tup ds => (pyDs ds).map .tuple
  | .lst ds => (pyDs ds).map .list
  | _ => none
def pyDs : List D → Option (List PyData)
  | [] => some []
  | d :: ds => match pyD d, pyDs ds with
    | some p, some ps => some (p :: ps)
    | _, _ => none
end
def pyM : M → Option PyData
  | .v d => pyD d
  | .ml ds => (pyDs ds).map .list
  | _ => none
mutual
theorem dp_of {K : PySem.W.Frag} {H : Hp} {O : List Addr} : ∀ {v : V} {d : D} {p : PyData}, RD K H O v d → pyD d = some p → Dp K H v p
  | _, _, _, .non, e => by cases e; exact .non
  | _, _, _, .bl b, e => by cases e; exact .bl b
  | _, _, _, .int i, e => by cases e; exact .int i
  | _, _, _, .str x, e => by cases e; exact .str x
  | _, _, _, .ty n, e => nomatch e
  | _, _, _, .ptr a, e => nomatch e
  | _, _, _, .tup (ds := ds) h r, e => by
    rw [pyD] at e
    cases q : pyDs ds with
    | none => rw [q] at e; cases e
    | some ps => rw [q] at e; cases e; exact .tup h.sq (dps_of r q)
  | _, _, _, .lst (ds := ds) h r, e => by
    rw [pyD] at e
    cases q : pyDs ds with
    | none => rw [q] at e; cases e
    | some ps => rw [q] at e; cases e; exact .lst h.sq (dps_of r q)
  | _, _, _, .dK n h e' r, e => nomatch e
  | _, _, _, .dT n h e' r, e => nomatch e
  | _, _, _, .obj n h e' r, e => nomatch e
theorem dps_of {K : PySem.W.Frag} {H : Hp} {O : List Addr} : ∀ {vs : List V} {ds : List D} {ps : List PyData}, RDs K H O vs ds → pyDs ds = some ps → DpAll K H vs ps
  | _, _, _, .nil, e => by cases e; exact .nil
  | _, _, _, .cons (d := d) (ds := ds) h r, e => by
    rw [pyDs] at e
    cases q : pyD d with
    | none => rw [q] at e; cases e
    | some p =>
      cases q2 : pyDs ds with
      | none => rw [q, q2] at e; cases e
      | some ps => rw [q, q2] at e; cases e; exact .cons (dp_of h q) (dps_of r q2)
end
theorem dpM {K : PySem.W.Frag} {H : Hp} {O : List Addr} {v : V} {m : M} {fp : List Addr} {p : PyData} (h : RM K H O (some v) m fp) (e : pyM m = some p) : Dp K H v p := by
  cases h with
  | v h => exact dp_of h e
  | ml h r =>
    rename_i vs ds
    rw [pyM] at e
    cases q : pyDs ds with
    | none => rw [q] at e; cases e
    | some ps => rw [q] at e; cases e; exact .lst (.inl (.inl h)) (dps_of r q)
  | _ => cases e
/-- two plain things compared: k of the answer -/
inductive EqP (a b : M) (k : Bool → Prop) : Prop where
  | mk (p q : PyData) (h1 : pyM a = some p) (h2 : pyM b = some q) (h3 : SeqAt.shaped p = true) (h4 : SeqAt.shaped q = true) (h : k (PyData.eqv p q))
  | no (h : False)
theorem EqP.ex {a b : M} {k : Bool → Prop} (h : EqP a b k) : ∃ p q, pyM a = some p ∧ pyM b = some q ∧ SeqAt.shaped p = true ∧ SeqAt.shaped q = true ∧ k (PyData.eqv p q) := by
  cases h with
  | mk p q h1 h2 h3 h4 h => exact ⟨p, q, h1, h2, h3, h4, h⟩
  | no h => exact h.elim
def eqB : BM := fun ms R => match ms with
  | [.v (.int i), .v (.int j)] => R (.v (.bl (decide (i = j)))) ms
  | [.v (.str x), .v (.str y)] => R (.v (.bl (decide (x = y)))) ms
  | [.v (.bl x), .v (.bl y)] => R (.v (.bl (decide (x = y)))) ms
  | [a, b] => EqP a b fun k => R (.v (.bl k)) ms
  | _ => False
def neB : BM := fun ms R => match ms with
  | [.v (.int i), .v (.int j)] => R (.v (.bl (decide (i ≠ j)))) ms
  | [.v (.str x), .v (.str y)] => R (.v (.bl (decide (x ≠ y)))) ms
  | [.v (.bl x), .v (.bl y)] => R (.v (.bl (decide (x ≠ y)))) ms
  | [a, b] => EqP a b fun k => R (.v (.bl (!k))) ms
  | _ => False
theorem decide_int (i j : Int) : decide ((V.int i) = V.int j) = decide (i = j) := by simp
theorem decide_str (i j : Str) : decide ((V.str i) = V.str j) = decide (i = j) := by simp
theorem decide_bl (i j : Bool) : decide ((V.bl i) = V.bl j) = decide (i = j) := by simp
theorem o_eq (hu : X.A.units + 64 < cLine) : OpR X (compareOp .Eq) (r2B X.K eqB) := by
  intro pins s σ H x y v u Q I rx ry h
  obtain ⟨L, ms, R, l, rs, hb, hQ⟩ := h
  unfold eqB at hb
  split at hb
  · rename_i i j
    obtain ⟨O, f1, f2, n, h1, h2, r⟩ := RS.two rs
    have e1 := h1.int
    have e2 := h2.int
    cases e1
    cases e2
    exact op_eq pins s σ H _ _ v u Q I rx ry ⟨rfl, by rw [decide_int]; exact hQ _ _ _ H hb (rs.bl _)⟩
  · rename_i i j
    obtain ⟨O, f1, f2, n, h1, h2, r⟩ := RS.two rs
    have e1 := h1.str
    have e2 := h2.str
    cases e1
    cases e2
    exact op_eq pins s σ H _ _ v u Q I rx ry ⟨rfl, by rw [decide_str]; exact hQ _ _ _ H hb (rs.bl _)⟩
  · rename_i i j
    obtain ⟨O, f1, f2, n, h1, h2, r⟩ := RS.two rs
    have e1 := h1.bl
    have e2 := h2.bl
    cases e1
    cases e2
    exact op_eq pins s σ H _ _ v u Q I rx ry ⟨rfl, by rw [decide_bl]; exact hQ _ _ _ H hb (rs.bl _)⟩
  · obtain ⟨p, q, e1, e2, z1, z2, hr⟩ := hb.ex
    obtain ⟨O, f1, f2, n, h1, h2, r⟩ := RS.two rs
    exact op_eqD hu pins s σ H _ _ v u Q I rx ry ⟨p, q, dpM h1 e1, dpM h2 e2, z1, z2, hQ _ _ _ H hr (rs.bl _)⟩
  · exact hb.elim
theorem o_ne (hu : X.A.units + 64 < cLine) : OpR X (compareOp .NotEq) (r2B X.K neB) := by
  intro pins s σ H x y v u Q I rx ry h
  obtain ⟨L, ms, R, l, rs, hb, hQ⟩ := h
  unfold neB at hb
  split at hb
  · rename_i i j
    obtain ⟨O, f1, f2, n, h1, h2, r⟩ := RS.two rs
    have e1 := h1.int
    have e2 := h2.int
    cases e1
    cases e2
    exact op_ne pins s σ H _ _ v u Q I rx ry ⟨rfl, by rw [decide_int, ← decide_not]; exact hQ _ _ _ H hb (rs.bl _)⟩
  · rename_i i j
    obtain ⟨O, f1, f2, n, h1, h2, r⟩ := RS.two rs
    have e1 := h1.str
    have e2 := h2.str
    cases e1
    cases e2
    exact op_ne pins s σ H _ _ v u Q I rx ry ⟨rfl, by rw [decide_str, ← decide_not]; exact hQ _ _ _ H hb (rs.bl _)⟩
  · rename_i i j
    obtain ⟨O, f1, f2, n, h1, h2, r⟩ := RS.two rs
    have e1 := h1.bl
    have e2 := h2.bl
    cases e1
    cases e2
    exact op_ne pins s σ H _ _ v u Q I rx ry ⟨rfl, by rw [decide_bl, ← decide_not]; exact hQ _ _ _ H hb (rs.bl _)⟩
  · obtain ⟨p, q, e1, e2, z1, z2, hr⟩ := hb.ex
    obtain ⟨O, f1, f2, n, h1, h2, r⟩ := RS.two rs
    exact op_neD hu pins s σ H _ _ v u Q I rx ry ⟨p, q, dpM h1 e1, dpM h2 e2, z1, z2, hQ _ _ _ H hr (rs.bl _)⟩
  · exact hb.elim
/-- .. is None -/
def isN : M → Option Bool
  | .v .non => some true
  | .v _ => some false
  | .gone => none
  | _ => some false
def isNB : BM := fun ms R => match ms with
  | [a, .v .non] => match isN a with
    | some b => R (.v (.bl b)) ms
    | none => False
  | _ => False
def notNB : BM := fun ms R => match ms with
  | [a, .v .non] => match isN a with
    | some true => R (.v (.bl false)) ms
    | some false => R (.v (.bl true)) ms
    | none => False
  | _ => False
theorem isN_of {K : PySem.W.Frag} {H : Hp} {O : List Addr} {v : V} {m : M} {fp : List Addr} {b : Bool} (h : RM K H O (some v) m fp) (e : isN m = some b) : decide (v = .non) = b := by
  cases h with
  | v h => cases h <;> (cases e; rfl)
  | gone => cases e
  | ml h r => cases e; rfl
  | mk h e' r => cases e; rfl
  | mt h e' r => cases e; rfl
  | mo h e' l r => cases e; rfl
  | mkm h e' l r => cases e; rfl
theorem o_isN : OpR X (compareOp .Is) (r2B X.K isNB) := by
  intro pins s σ H x y v u Q I rx ry h
  obtain ⟨L, ms, R, l, rs, hb, hQ⟩ := h
  unfold isNB at hb
  split at hb
  · rename_i a
    obtain ⟨O, f1, f2, n, h1, h2, r⟩ := RS.two rs
    have e2 := h2.non
    cases e2
    cases e : isN a with
    | none => rw [e] at hb; exact hb.elim
    | some b =>
      rw [e] at hb
      have e3 := isN_of h1 e
      exact op_isN pins s σ H _ _ v u Q I rx ry ⟨rfl, by rw [e3]; exact hQ _ _ _ H hb (rs.bl _)⟩
  · exact hb.elim
theorem o_notN : OpR X (compareOp .IsNot) (r2B X.K notNB) := by
  intro pins s σ H x y v u Q I rx ry h
  obtain ⟨L, ms, R, l, rs, hb, hQ⟩ := h
  unfold notNB at hb
  split at hb
  · rename_i a
    obtain ⟨O, f1, f2, n, h1, h2, r⟩ := RS.two rs
    have e2 := h2.non
    cases e2
    cases e : isN a with
    | none => rw [e] at hb; exact hb.elim
    | some b =>
      rw [e] at hb
      have e3 := isN_of h1 e
      cases b with
      | true => exact op_notN pins s σ H _ _ v u Q I rx ry ⟨rfl, by rw [e3]; exact hQ _ _ _ H hb (rs.bl _)⟩
      | false => exact op_notN pins s σ H _ _ v u Q I rx ry ⟨rfl, by rw [e3]; exact hQ _ _ _ H hb (rs.bl _)⟩
  · exact hb.elim
end
end DM

/-! Items, slices, built-in calls. -/
namespace DM
open PySem PySem.Spec PyProof.Rows
open L2
variable [Tabs]

section
variable {prog : Program} {w : World} {A : Around} {E : Value → Shared → Prop} {s : Shared}
theorem adjust_rev (n : Nat) : Builtin.Slice.sliceAdjust none none (-1) (n : Int) = ((n : Int) - 1, -1) := by
  unfold Builtin.Slice.sliceAdjust
  simp
theorem places_rev (n : Nat) : Builtin.Slice.slicePlaces ((n : Int) - 1) (-1) (-1) = n := by
  unfold Builtin.Slice.slicePlaces
  have h1 : ¬ ((-1 : Int) > 0) := by omega
  simp only [h1, if_false]
  by_cases h : (n : Int) - 1 > -1
  · rw [if_pos h]
    have e : ((n : Int) - 1 - -1 - 1) = (n : Int) - 1 := by omega
    rw [e, show (- -1 : Int) = 1 by decide, Int.ediv_one]
    omega
  · rw [if_neg h]
    omega
theorem sliceApplied_rev {sl : Addr} {vl vu vs : Value} {n : Nat} {Q : Int × Int × Nat → Shared → Prop} (hs : s.heap.IsSliceOf sl vl vu vs) (pl : IsPart vl none) (pu : IsPart vu none) (ps : IsPart vs (some (-1)))
    (h : Q ((n : Int) - 1, -1, n) s) : wpAny (model prog w) A (Builtin.Slice.sliceApplied (.ref sl) (pure (n : Int))) Q E s := by
  obtain ⟨os, hos, hcs, hds⟩ := id hs
  unfold Builtin.Slice.sliceApplied Builtin.Slice.sliceFields
  refine wpAny_bind (wpAny_bind (wpAny_field hos hds (x := vl) rfl (wpAny_bind (wpAny_field hos hds (x := vu) rfl (wpAny_bind (wpAny_field hos hds (x := vs) rfl (wpAny_pure ?_)))))))
  refine wpAny_bind (HT.slicePart_ ps ?_)
  show wpAny _ _ (if ((-1 : Int) == 0) = true then _ else _) _ _ s
  rw [if_neg (by decide)]
  refine wpAny_bind (HT.slicePart_ pl (wpAny_bind (HT.slicePart_ pu (wpAny_bind (wpAny_pure ?_)))))
  show wpAny _ _ (match Builtin.Slice.sliceAdjust none none (-1) (n : Int) with | (lo, hi) => pure (lo, (-1 : Int), Builtin.Slice.slicePlaces lo hi (-1))) _ _ s
  rw [adjust_rev n]
  show wpAny _ _ (pure ((n : Int) - 1, (-1 : Int), Builtin.Slice.slicePlaces ((n : Int) - 1) (-1) (-1))) _ _ s
  rw [places_rev]
  exact wpAny_pure h
theorem filterMap_all {α β : Type} {f : α → Option β} {g : α → β} : ∀ (l : List α), (∀ m ∈ l, f m = some (g m)) → l.filterMap f = l.map g
  | [], _ => rfl
  | a :: l, h => by rw [List.filterMap_cons, h a List.mem_cons_self, List.map_cons, filterMap_all l fun m hm => h m (List.mem_cons_of_mem _ hm)]
theorem pick_rev (xs : Array Value) : ((List.range xs.size).filterMap fun (m : Nat) => xs[(((xs.size : Int) - 1) + (m : Int) * (-1)).toNat]?) = xs.toList.reverse := by
  apply List.ext_getElem?
  intro j
  by_cases hj : j < xs.size
  · have e : (List.range xs.size).filterMap (fun (m : Nat) => xs[(((xs.size : Int) - 1) + (m : Int) * (-1)).toNat]?) = (List.range xs.size).map (fun m => if h : m < xs.size then xs[xs.size - 1 - m]'(by omega) else Value.none) := by
      refine filterMap_all _ fun m hm => ?_
      have hm' : m < xs.size := List.mem_range.mp hm
      have e1 : (((xs.size : Int) - 1) + (m : Int) * (-1)).toNat = xs.size - 1 - m := by omega
      rw [e1, Array.getElem?_eq_getElem (by omega)]
      simp [hm']
    rw [e, List.getElem?_map, List.getElem?_range hj, List.getElem?_reverse (by simpa using hj)]
    simp only [Option.map_some, Array.length_toList, hj, dif_pos]
    rw [Array.getElem?_toList, Array.getElem?_eq_getElem (by omega)]
  · rw [List.getElem?_eq_none_iff.mpr, List.getElem?_eq_none_iff.mpr]
    · simp; omega
    · refine Nat.le_trans (List.length_filterMap_le _ _) ?_
      simp; omega
theorem getItem_tuple_rev {t sl : Addr} {items : Array Value} {vl vu vs : Value} {Q : Value → Shared → Prop} (ht : IsTup s.heap t items) (hs : s.heap.IsSliceOf sl vl vu vs) (pl : IsPart vl none) (pu : IsPart vu none) (ps : IsPart vs (some (-1)))
    (h : Q (.ref s.heap.objs.size) { s with heap := s.heap.push { cls := .type "tuple", data := .seq items.toList.reverse.toArray } })
    (hsz : items.size ≤ sizeLine) : wpAny (model prog w) A (getItem (.ref t) (.ref sl)) Q E s := by
  have htake : sizeOk (.seq items.toList.reverse.toArray) := by
    show items.toList.reverse.toArray.size ≤ sizeLine
    rw [List.size_toArray, List.length_reverse, Array.length_toList]
    exact hsz
  obtain ⟨os, hos, hcs, hds⟩ := id hs
  have hTs : s.TypeIs (.ref sl) "slice" := ⟨os, hos, hcs⟩
  unfold getItem
  try with_reducible refine wpAny_holding ?_
  first | refine wpAny_bind (wpAny_pure ?_) | skip
  refine wpAny_bind (wpAny_sequenceKey ht.typeIs (by decide) ?_)
  refine wpAny_bind (wpAny_callSpecial?_slot (name := Str.ofString "__getitem__") ht.typeIs PyProof.Rows.slot_tuple_getitem
    (wpAny_call_entry PyProof.Rows.slot_tuple_getitem ht.typeIs entry_tuple_getitem ?_ (args_tuple_getitem _ _)))
  show wpAny _ _ (Builtin.Tuple.tupleItemsOf (.ref t) >>= _) _ _ s
  refine wpAny_bind (tupleItemsOf_ ht ?_)
  refine wpAny_bind (wpAny_typeOf hTs ?_)
  rw [if_pos (by decide)]
  refine wpAny_bind (sliceApplied_rev hs pl pu ps ?_)
  have hno : ¬ ((((items.size : Int) - 1) == 0 && (-1 : Int) == 1 && items.size == items.size) = true) := by
    intro q
    rw [Bool.and_eq_true, Bool.and_eq_true] at q
    exact absurd q.1.2 (by decide)
  show wpAny _ _ (if (((items.size : Int) - 1) == 0 && (-1 : Int) == 1 && items.size == items.size) = true then _ else _) _ _ s
  rw [if_neg hno, pick_rev]
  first
    | exact wpAny_bind (m := Builtin.Tuple.tupleExact _) (wpAny_newObj_type (wpAny_pure ⟨_, rfl, wpAny_pure h⟩) htake)
    | exact wpAny_bind (m := Builtin.Tuple.tupleExact _) (wpAny_newObj_type (wpAny_bind (wpAny_pure (wpAny_pure ⟨_, rfl, wpAny_pure h⟩))) htake)
    | exact wpAny_bind (wpAny_bind (m := Builtin.Tuple.tupleExact _) (wpAny_newObj_type (wpAny_pure (wpAny_pure ⟨_, rfl, wpAny_pure h⟩)) htake))
    | exact wpAny_bind (wpAny_bind (m := Builtin.Tuple.tupleExact _) (wpAny_newObj_type (wpAny_pure ⟨_, rfl, wpAny_pure h⟩) htake))
end

section
variable {X : Cx} {W : WX}
/-- xs[::-1] of a list or a tuple -/
def tRevA (K : PySem.W.Frag) (te : TE) : TE := fun σ H Q => te σ H fun x H1 => ∃ a xs, x = .ref a ∧ ((SqL K H1 a xs ∧ ∀ p, H1 p = none → Q (.ref p) (upd H1 p (.lst xs.reverse))) ∨ (SqT K H1 a xs ∧ ∀ p, H1 p = none → Q (.ref p) (upd H1 p (.tup xs.reverse))))
theorem pe_revA {e : Expr} {te : TE} {k : Nat} {p1 p2 p3 pos : Pos} (he : PE X e te) : PE X (.Subscript e (.Slice none none (some (.UnaryOp .USub (.Constant (.int 1) k p1) p2)) p3) pos) (tRevA X.K te) := by
  refine ⟨fun pins s σ H Q I h => ?_⟩
  refine Subscript_ (thn (he.run pins s σ H _ I h) fun v s1 ⟨x, H1, I1, r1, q1⟩ => ?_)
  obtain ⟨a, xs, ex, hq⟩ := q1
  subst ex
  cases r1
  have hst : PO X (some (.UnaryOp .USub (.Constant (.int 1) k p1) p2)) (tPart (tUn (rU fun i => .int (-i)) (tC (.int 1)))) := po_some (pe_un un_neg pe_int)
  refine wpAny_Slice (thn (po_none.run pins s1 σ H1 (fun o H2 => o = none ∧ H2 = H1) I1 ⟨rfl, rfl⟩) fun vl s2 ⟨l, H2, I2, pl, el, e2⟩ => ?_)
  subst el e2
  refine thn (po_none.run pins s2 σ H2 (fun o H3 => o = none ∧ H3 = H2) I2 ⟨rfl, rfl⟩) fun vu s3 ⟨u, H3, I3, pu, eu, e3⟩ => ?_
  subst eu e3
  refine thn (hst.run pins s3 σ H3 (fun o H4 => o = some (-1) ∧ H4 = H3) I3 ⟨1, rfl, -1, rfl, rfl, rfl⟩) fun vs s4 ⟨o, H4, I4, ps, eo, e4⟩ => ?_
  subst eo e4
  have I5 : Inv X pins σ H4 { s4 with heap := s4.heap.push { cls := .type "slice", data := .fields #[vl, vu, vs] } } := I4.kept (t' := s4.toks) fun b ob q => Heap.get?_push_of_some _ q
  rcases hq with ⟨hx, q⟩ | ⟨hx, q⟩
  · obtain ⟨its, r, ht, hz⟩ := I5.list hx
    have hlen := r.length
    show wpAny (model X.prog X.w) X.A (subscriptTail e (.Slice none none (some (.UnaryOp .USub (.Constant (.int 1) k p1) p2)) p3) (.ref a) (.ref s4.heap.objs.size)) (EP X pins σ Q) X.xe { s4 with heap := s4.heap.push { cls := .type "slice", data := .fields #[vl, vu, vs] } }
    refine tail_any (ops := [.ref a, .ref s4.heap.objs.size]) ht.isList.typeIs (PySem.slot_list_getitem.lookup) ?_ (by with_unfolding_all rfl)
    refine wpAny_getItem_list_slice ht.isList (Heap.IsSliceOf.new _ vl vu vs) pl pu ps (by decide) ?_ (by rw [List.size_toArray]; omega)
    rw [PySem.W.krv_pick]
    refine ⟨.ref _, _, I5.laid (t' := s4.toks) (o := .lst xs.reverse) (fun b ob q => Heap.get?_push_of_some _ q) (Nat.le_refl _) ?_, rfl, q _ (I5.hok.fresh (Nat.le_refl _))⟩
    exact ⟨by rw [List.length_reverse]; exact hz, _, 0, r.reverse, Heap.get?_push_size _ rfl⟩
  · obtain ⟨its, r, ht, hz⟩ := I5.tuple hx
    have hlen := r.length
    show wpAny (model X.prog X.w) X.A (subscriptTail e (.Slice none none (some (.UnaryOp .USub (.Constant (.int 1) k p1) p2)) p3) (.ref a) (.ref s4.heap.objs.size)) (EP X pins σ Q) X.xe { s4 with heap := s4.heap.push { cls := .type "slice", data := .fields #[vl, vu, vs] } }
    refine tail_any (ops := [.ref a, .ref s4.heap.objs.size]) ht.typeIs (PyProof.Rows.slot_tuple_getitem.lookup) ?_ (by with_unfolding_all rfl)
    refine getItem_tuple_rev ht (Heap.IsSliceOf.new _ vl vu vs) pl pu ps ?_ (by rw [List.size_toArray]; omega)
    refine ⟨.ref _, _, I5.laid (t' := s4.toks) (o := .tup xs.reverse) (fun b ob q => Heap.get?_push_of_some _ q) (Nat.le_refl _) ?_, rfl, q _ (I5.hok.fresh (Nat.le_refl _))⟩
    exact ⟨by rw [List.length_reverse]; exact hz, _, r.reverse, IsTup.new _ _⟩
def revB : BM := fun ms R => match ms with
  | [.v (.tup ds)] => R (.v (.tup ds.reverse)) ms
  | [a] => ∃ ds, lsV a = some ds ∧ R (.ml ds.reverse) ms
  | _ => False
theorem de_rev {e : Expr} {fo : FO} {k : Nat} {p1 p2 p3 pos : Pos} (he : DO X W e fo) : DE X W (.Subscript e (.Slice none none (some (.UnaryOp .USub (.Constant (.int 1) k p1) p2)) p3) pos) (f1 revB fo) :=
  ⟨pe_le (pe_revA he.pe) fun σ H Q h => by
    obtain ⟨G, S, R, XR, l, rs, hF, hQ, hX⟩ := tD_f1 h
    refine ⟨G, S, R, XR, l, rs, hF, fun a S' v H' l' r ok rs' => ?_, hX⟩
    obtain ⟨L, ms, R', lm, rs2, hb, hQ'⟩ := hQ a S' v H' l' r ok rs'
    unfold revB at hb
    split at hb
    · obtain ⟨O, f1, n, h1, r1⟩ := RS.one rs2
      obtain ⟨b, vs, e1, s1, r2⟩ := h1.tp rfl
      cases e1
      exact ⟨b, vs, rfl, .inr ⟨s1, fun p hp => hQ' _ _ _ _ hb (RS.newTup ⟨O, n, r2.reverse, r1⟩ hp)⟩⟩
    · obtain ⟨ds, e0, hr⟩ := hb
      obtain ⟨O, f1, n, h1, r1⟩ := RS.one rs2
      obtain ⟨b, vs, e1, s1, r2⟩ := h1.ls e0
      cases e1
      exact ⟨b, vs, rfl, .inl ⟨s1, fun p hp => hQ' _ _ _ _ hr (RS.newLst ⟨O, n, r2.reverse, r1⟩ hp)⟩⟩
    · exact hb.elim⟩

/-! ### items -/
theorem RDs.atI {K : PySem.W.Frag} {H : Hp} {O : List Addr} {vs : List V} {ds : List D} {i : Int} {d : D} (r : RDs K H O vs ds) (e : atI ds i = some d) : ∃ v, L2.atI vs i = some v ∧ RD K H O v d := by
  unfold L2.atI at e ⊢
  rw [r.length]
  cases q : ixN ds.length i with
  | none => rw [q] at e; cases e
  | some j =>
    rw [q] at e
    exact r.get (show ds[j]? = some d from e)
def ixB : BM := fun ms R => match ms with
  | [.v (.str z), .v (.int i)] => ∃ c, z.length ≤ sizeLine ∧ atI z.cps.toList i = some c ∧ R (.v (.str ⟨#[c]⟩)) ms
  | [a, .v (.int i)] => ∃ ds d, sqV a = some ds ∧ atI ds i = some d ∧ R (.v d) ms
  | _ => False
theorem o_ix : IxR X (r2B X.K ixB) := by
  intro value slice pins s σ H x y v u Q I rx ry h hs
  obtain ⟨L, ms, R, l, rs, hb, hQ⟩ := h
  unfold ixB at hb
  split at hb
  · obtain ⟨c, z1, z2, hr⟩ := hb
    obtain ⟨O, f1, f2, n, h1, h2, r⟩ := RS.two rs
    have e1 := h1.str
    have e2 := h2.int
    cases e1
    cases e2
    exact ix_str value slice pins s σ H _ _ v u Q I rx ry ⟨_, _, c, rfl, rfl, z1, z2, hQ _ _ _ H hr (rs.str _)⟩ hs
  · obtain ⟨ds, d, e0, e3, hr⟩ := hb
    obtain ⟨O, f1, f2, n, h1, h2, r⟩ := RS.two rs
    obtain ⟨a, vs, e1, s1, r1⟩ := h1.sq e0
    have e2 := h2.int
    cases e1
    cases e2
    obtain ⟨w, e4, rw'⟩ := r1.atI e3
    have fin := hQ _ _ w H hr ⟨O, n, .cons (fp := []) (.v rw') r⟩
    rcases s1 with s1 | s1
    · exact ix_list value slice pins s σ H _ _ v u Q I rx ry ⟨_, _, _, _, rfl, rfl, s1, e4, fin⟩ hs
    · exact ix_tup value slice pins s σ H _ _ v u Q I rx ry ⟨_, _, _, _, rfl, rfl, s1, e4, fin⟩ hs
  · exact hb.elim

/-! ### slices -/
def cut {α : Type} (xs : List α) (lo hi : Option Int) : List α := (xs.drop (HT.sIx xs.length 0 lo)).take (HT.sIx xs.length xs.length hi - HT.sIx xs.length 0 lo)
theorem RDs.cut {K : PySem.W.Frag} {H : Hp} {O : List Addr} {vs : List V} {ds : List D} (lo hi : Option Int) (r : RDs K H O vs ds) : RDs K H O (cutV vs lo hi) (cut ds lo hi) := by
  unfold cutV DM.cut
  rw [r.length]
  exact (r.drop _).take _
theorem cut_whole {α : Type} {xs : List α} {lo hi : Option Int} (h : HT.sIx xs.length 0 lo = 0 ∧ HT.sIx xs.length xs.length hi = xs.length) : cut xs lo hi = xs := by
  unfold cut
  rw [h.1, h.2, List.drop_zero, Nat.sub_zero, List.take_length]
abbrev FP := List M → (Option Int → List M → Prop) → XM → Prop
def tDP (K : PySem.W.Frag) (W : WX) (F : FP) : TO := fun σ H Q => ∃ (G : List Pr) (S : List M) (R : Option Int → List M → Prop) (XR : XM), σ.length = S.length ∧ RS K H (G ++ σ.zip S) ∧ F S R XR ∧
  (∀ b S' H', σ.length = S'.length → R b S' → RS K H' (G ++ σ.zip S') → Q b H') ∧
  (∀ c fs S' d H', σ.length = S'.length → XR (c, fs) S' → XOk K H' d fs (G ++ σ.zip S') → W c d σ H')
structure DP (X : Cx) (W : WX) (e : Option Expr) (F : FP) : Prop where
  po : PO X e (tDP X.K W F)
def pNo : FP := fun S R _ => R none S
def asI (m : M) (k : Int → Prop) : Prop := match m with
  | .v (.int i) => k i
  | _ => False
def pSome (F : FE) : FP := fun S R XR => F S (fun m S' => asI m fun i => R (some i) S') XR
theorem RS.asI {K : PySem.W.Frag} {H : Hp} {v : V} {m : M} {k : Int → Prop} {L : List Pr} (h : RS K H ((some v, m) :: L)) (z : asI m k) : ∃ b, v = .int b ∧ k b := by
  unfold DM.asI at z
  split at z
  · obtain ⟨O, f1, n, h1, r1⟩ := RS.one h
    have e := h1.int
    cases e
    exact ⟨_, rfl, z⟩
  · exact z.elim
theorem po_le {e : Option Expr} {t t' : TO} (h : PO X e t) (k : ∀ σ H Q, t' σ H Q → t σ H Q) : PO X e t' := ⟨fun pins s σ H Q I q => h.run pins s σ H Q I (k σ H Q q)⟩
theorem dp_none : DP X W none pNo := ⟨po_le po_none fun σ H Q h => by
  obtain ⟨G, S, R, XR, l, rs, hF, hQ, hX⟩ := h
  exact hQ none S H l hF rs⟩
theorem dp_some {e : Expr} {F : FE} (h : DE X W e F) : DP X W (some e) (pSome F) := ⟨po_le (po_some h.pe) fun σ H Q h => by
  obtain ⟨G, S, R, XR, l, rs, hF, hQ, hX⟩ := h
  refine ⟨G, S, _, XR, l, rs, hF, fun a S1 x H1 l1 hb rs1 => ?_, hX⟩
  obtain ⟨i, e, k⟩ := RS.asI rs1 hb
  exact ⟨i, e, hQ _ S1 H1 l1 k rs1.drop⟩⟩
def slB (lo hi : Option Int) : BM := fun ms R => match ms with
  | [.v (.str z)] => z.length ≤ sizeLine ∧ R (.v (.str (cutS z lo hi))) ms
  | [.v (.tup ds)] => R (.v (.tup (cut ds lo hi))) ms
  | [a] => ∃ ds, lsV a = some ds ∧ R (.ml (cut ds lo hi)) ms
  | _ => False
def fSl (fo : FO) (pl ph : FP) : FE := fun S R XR => fo S (fun a S1 => pl S1 (fun lo S2 => ph S2 (fun hi S3 => callB (slB lo hi) [a] S3 R) XR) XR) XR
def rSlM (K : PySem.W.Frag) : V → Option Int → Option Int → Hp → VK → Prop := fun x lo hi H Q => rB K (slB lo hi) [x] H Q
theorem sl_M : SlR X (rSlM X.K) := by
  intro pins s σ H x v vl vu lo hi sl Q I rx hs pl pu h
  obtain ⟨L, ms, R, l, rs, hb, hQ⟩ := h
  unfold slB at hb
  split at hb
  · obtain ⟨O, f1, n, h1, r⟩ := RS.one rs
    have e1 := h1.str
    cases e1
    exact sl_str pins s σ H _ v vl vu lo hi sl Q I rx hs pl pu ⟨_, rfl, hb.1, hQ _ _ _ H hb.2 (rs.str _)⟩
  · obtain ⟨O, f1, n, h1, r⟩ := RS.one rs
    obtain ⟨a, vs, e1, s1, r1⟩ := h1.tp rfl
    cases e1
    refine sl_tupA pins s σ H _ v vl vu lo hi sl Q I rx hs pl pu ⟨a, vs, rfl, s1, fun e => ?_, fun e p hp => ?_⟩
    · rw [r1.length] at e
      rw [cut_whole e] at hb
      exact hQ _ _ _ H hb (RS.dup rs)
    · exact hQ _ _ _ _ hb (RS.newTup ⟨O, n, r1.cut lo hi, r⟩ hp)
  · obtain ⟨ds, e0, hr⟩ := hb
    obtain ⟨O, f1, n, h1, r⟩ := RS.one rs
    obtain ⟨a, vs, e1, s1, r1⟩ := h1.ls e0
    cases e1
    exact sl_list pins s σ H _ v vl vu lo hi sl Q I rx hs pl pu ⟨a, vs, rfl, s1, fun p hp => hQ _ _ _ _ hr (RS.newLst ⟨O, n, r1.cut lo hi, r⟩ hp)⟩
  · exact hb.elim
theorem de_sl {e : Expr} {lo hi : Option Expr} {fo : FO} {pl ph : FP} {p2 pos : Pos} (he : DO X W e fo) (hl : DP X W lo pl) (hh : DP X W hi ph) : DE X W (.Subscript e (.Slice lo hi none p2) pos) (fSl fo pl ph) :=
  ⟨pe_le (pe_slice sl_M he.pe hl.po hh.po) fun σ H Q h => by
    obtain ⟨G, S, R, XR, l, rs, hF, hQ, hX⟩ := h
    refine ⟨G, S, _, XR, l, rs, hF, fun a S1 x H1 l1 hb ok1 rs1 => ?_, hX⟩
    refine ⟨(some x, arM a) :: G, S1, _, XR, l1, rs1, hb, fun lo S2 H2 l2 hb2 rs2 => ?_, fun c fs S' d H' l' hx xo => hX c fs S' d H' l' hx xo.drop⟩
    refine ⟨(some x, arM a) :: G, S2, _, XR, l2, rs2, hb2, fun hi S3 H3 l3 hb3 rs3 => ?_, fun c fs S' d H' l' hx xo => hX c fs S' d H' l' hx xo.drop⟩
    exact rB_of (as := [a]) (vs := [x]) l3 ⟨ok1, trivial⟩ rs3 hb3 hQ⟩

/-! ### built-in calls -/
def lenB : BM := fun ms R => match ms with
  | [.v (.str z)] => z.length ≤ sizeLine ∧ R (.v (.int z.length)) ms
  | [.mk ks ds] => R (.v (.int ks.length)) ms
  | [.v (.dK ks ds)] => R (.v (.int ks.length)) ms
  | [a] => ∃ ds, sqV a = some ds ∧ R (.v (.int ds.length)) ms
  | _ => False
theorem c_len : CallR X (.builtin "len") (rB X.K lenB) := by
  intro pins s σ H xs us Q I rx h
  obtain ⟨L, ms, R, l, rs, hb, hQ⟩ := h
  unfold lenB at hb
  split at hb
  · obtain ⟨x, rfl⟩ := one_of l
    obtain ⟨O, f1, n, h1, r⟩ := RS.one rs
    have e1 := h1.str
    cases e1
    exact call_len_str pins s σ H _ us Q I rx ⟨_, rfl, hb.1, hQ _ _ _ H hb.2 (rs.int _)⟩
  · obtain ⟨x, rfl⟩ := one_of l
    obtain ⟨O, f1, n, h1, r⟩ := RS.one rs
    cases h1 with
    | mk e e2 r2 =>
      rename_i a kvs
      refine call_lenD pins s σ H _ us Q I rx ⟨a, kvs, rfl, e, ?_⟩
      rw [← e2, List.length_map] at hb
      have q := hQ _ _ _ H (by rw [← e2]; exact hb) (rs.int _)
      exact q
  · obtain ⟨x, rfl⟩ := one_of l
    obtain ⟨O, f1, n, h1, r⟩ := RS.one rs
    cases h1 with
    | v h1 =>
      cases h1 with
      | dK nn e e2 r2 =>
        rename_i a kvs
        refine call_lenD pins s σ H _ us Q I rx ⟨a, kvs, rfl, e, ?_⟩
        rw [← e2, List.length_map] at hb
        exact hQ _ _ _ H (by rw [← e2]; exact hb) (rs.int _)
  · obtain ⟨ds, e0, hr⟩ := hb
    obtain ⟨x, rfl⟩ := one_of l
    obtain ⟨O, f1, n, h1, r⟩ := RS.one rs
    obtain ⟨a, vs, e1, s1, r1⟩ := h1.sq e0
    cases e1
    refine call_len_seq pins s σ H _ us Q I rx ⟨a, vs, rfl, s1, ?_⟩
    rw [r1.length]
    exact hQ _ _ _ H hr (rs.int _)
  · exact hb.elim
/-- tuple(x) of a list or a tuple -/
def tupleB : BM := fun ms R => match ms with
  | [.v (.tup ds)] => R (.v (.tup ds)) ms
  | [a] => ∃ ds, lsV a = some ds ∧ R (.v (.tup ds)) ms
  | _ => False
theorem c_tuple : CallR X (.type "tuple") (rB X.K tupleB) := by
  intro pins s σ H xs us Q I rx h
  obtain ⟨L, ms, R, l, rs, hb, hQ⟩ := h
  unfold tupleB at hb
  split at hb
  · obtain ⟨x, rfl⟩ := one_of l
    obtain ⟨O, f1, n, h1, r⟩ := RS.one rs
    obtain ⟨a, vs, e1, s1, r1⟩ := h1.tp rfl
    cases e1
    exact call_tuple_of pins s σ H _ us Q I rx ⟨a, vs, rfl, .inr ⟨s1, hQ _ _ _ H hb (RS.dup rs)⟩⟩
  · obtain ⟨ds, e0, hr⟩ := hb
    obtain ⟨x, rfl⟩ := one_of l
    obtain ⟨O, f1, n, h1, r⟩ := RS.one rs
    obtain ⟨a, vs, e1, s1, r1⟩ := h1.ls e0
    cases e1
    exact call_tuple_of pins s σ H _ us Q I rx ⟨a, vs, rfl, .inl ⟨s1, fun p hp => hQ _ _ _ _ hr (RS.newTup ⟨O, n, r1, r⟩ hp)⟩⟩
  · exact hb.elim
/-- list(x) of a list or a tuple -/
def listB : BM := fun ms R => match ms with
  | [a] => ∃ ds, sqV a = some ds ∧ R (.ml ds) ms
  | _ => False
theorem c_list : CallR X (.type "list") (rB X.K listB) := by
  intro pins s σ H xs us Q I rx h
  obtain ⟨L, ms, R, l, rs, hb, hQ⟩ := h
  unfold listB at hb
  split at hb
  · obtain ⟨ds, e0, hr⟩ := hb
    obtain ⟨x, rfl⟩ := one_of l
    obtain ⟨O, f1, n, h1, r⟩ := RS.one rs
    obtain ⟨a, vs, e1, s1, r1⟩ := h1.sq e0
    cases e1
    exact call_list_of pins s σ H _ us Q I rx ⟨a, vs, rfl, s1, fun p hp => hQ _ _ _ _ hr (RS.newLst ⟨O, n, r1, r⟩ hp)⟩
  · exact hb.elim
def intB : BM := fun ms R => match ms with
  | [.v (.int i)] => R (.v (.int i)) ms
  | [.v (.bl b)] => R (.v (.int (if b then 1 else 0))) ms
  | _ => False
theorem c_int : CallR X (.type "int") (rB X.K intB) := by
  intro pins s σ H xs us Q I rx h
  obtain ⟨L, ms, R, l, rs, hb, hQ⟩ := h
  unfold intB at hb
  split at hb
  · obtain ⟨x, rfl⟩ := one_of l
    obtain ⟨O, f1, n, h1, r⟩ := RS.one rs
    have e1 := h1.int
    cases e1
    exact call_int1 pins s σ H _ us Q I rx (.inl ⟨_, rfl, hQ _ _ _ H hb (rs.int _)⟩)
  · obtain ⟨x, rfl⟩ := one_of l
    obtain ⟨O, f1, n, h1, r⟩ := RS.one rs
    have e1 := h1.bl
    cases e1
    exact call_int1 pins s σ H _ us Q I rx (.inr ⟨_, rfl, hQ _ _ _ H hb (rs.int _)⟩)
  · exact hb.elim
def absB : BM := fun ms R => match ms with
  | [.v (.int i)] => R (.v (.int (if i < 0 then -i else i))) ms
  | _ => False
theorem c_abs : CallR X (.builtin "abs") (rB X.K absB) := by
  intro pins s σ H xs us Q I rx h
  obtain ⟨L, ms, R, l, rs, hb, hQ⟩ := h
  unfold absB at hb
  split at hb
  · obtain ⟨x, rfl⟩ := one_of l
    obtain ⟨O, f1, n, h1, r⟩ := RS.one rs
    have e1 := h1.int
    cases e1
    exact call_abs pins s σ H _ us Q I rx ⟨_, rfl, hQ _ _ _ H hb (rs.int _)⟩
  · exact hb.elim
def maxB : BM := fun ms R => match ms with
  | [.v (.int i), .v (.int j)] => R (.v (.int (if j > i then j else i))) ms
  | _ => False
def minB : BM := fun ms R => match ms with
  | [.v (.int i), .v (.int j)] => R (.v (.int (if j < i then j else i))) ms
  | _ => False
theorem c_max (hc : X.calm = true) : CallR X (.builtin "max") (rB X.K maxB) := by
  intro pins s σ H xs us Q I rx h
  obtain ⟨L, ms, R, l, rs, hb, hQ⟩ := h
  unfold maxB at hb
  split at hb
  · obtain ⟨x, y, rfl⟩ := two_of l
    obtain ⟨O, f1, f2, n, h1, h2, r⟩ := RS.two rs
    have e1 := h1.int
    have e2 := h2.int
    cases e1
    cases e2
    exact call_max2 hc pins s σ H _ us Q I rx ⟨_, _, rfl, hQ _ _ _ H hb (rs.int _)⟩
  · exact hb.elim
theorem c_min (hc : X.calm = true) : CallR X (.builtin "min") (rB X.K minB) := by
  intro pins s σ H xs us Q I rx h
  obtain ⟨L, ms, R, l, rs, hb, hQ⟩ := h
  unfold minB at hb
  split at hb
  · obtain ⟨x, y, rfl⟩ := two_of l
    obtain ⟨O, f1, f2, n, h1, h2, r⟩ := RS.two rs
    have e1 := h1.int
    have e2 := h2.int
    cases e1
    cases e2
    exact call_min2 hc pins s σ H _ us Q I rx ⟨_, _, rfl, hQ _ _ _ H hb (rs.int _)⟩
  · exact hb.elim
/-- isinstance(x, T) against a built-in class -/
def tyM : M → Option String
  | .v .non => some "NoneType"
  | .v (.bl _) => some "bool"
  | .v (.int _) => some "int"
  | .v (.str _) => some "str"
  | .v (.tup _) => some "tuple"
  | .v (.lst _) => some "list"
  | .v (.dK _ _) => some "dict"
  | .v (.dT _ _) => some "dict"
  | .ml _ => some "list"
  | .mk _ _ => some "dict"
  | .mt _ _ => some "dict"
  | _ => none
/-- the answer: T of the built-in classes, of a value of the built-in class U -/
def isTy (U T : String) : Bool := U == T || (U == "bool" && T == "int")
def isiB : BM := fun ms R => match ms with
  | [a, .v (.ty T)] => ∃ U, tyM a = some U ∧ kitB U T = some (isTy U T) ∧ R (.v (.bl (isTy U T))) ms
  | _ => False
theorem tyX_tup {K : PySem.W.Frag} {H : Hp} {a : Addr} {vs : List V} (h : SqT K H a vs) : TyX K H (.ref a) (.type "tuple") := by
  rcases h with (h | ⟨o, h⟩) | ⟨o, its, n, e, c, _⟩
  · exact .base (.tup h)
  · exact .fTuple h
  · exact .kTuple e c
theorem tyX_lst {K : PySem.W.Frag} {H : Hp} {a : Addr} {vs : List V} (h : SqL K H a vs) : TyX K H (.ref a) (.type "list") := by
  rcases h with (h | ⟨o, h⟩) | ⟨o, its, n, e, c, _⟩
  · exact .base (.lst h)
  · exact .base (.frz h)
  · exact .kList e c
theorem tyX_of {K : PySem.W.Frag} {H : Hp} {O : List Addr} {v : V} {m : M} {fp : List Addr} {U : String} (h : RM K H O (some v) m fp) (e : tyM m = some U) : TyX K H v (.type U) := by
  cases h with
  | v h =>
    cases h with
    | non => cases e; exact .base .non
    | bl b => cases e; exact .base (.bl b)
    | int b => cases e; exact .base (.int b)
    | str b => cases e; exact .base (.str b)
    | tup h r => cases e; exact tyX_tup h.sq
    | lst h r => cases e; exact tyX_lst h.sq
    | dK n h e' r => cases e; exact .base (.dK h)
    | dT n h e' r => cases e; exact .base (.dT h)
    | _ => cases e
  | ml h r => cases e; exact .base (.lst h)
  | mk h e' r => cases e; exact .base (.dK h)
  | mt h e' r => cases e; exact .base (.dT h)
  | _ => cases e
theorem c_isi : CallR X (.builtin "isinstance") (rB X.K isiB) := by
  intro pins s σ H xs us Q I rx h
  obtain ⟨L, ms, R, l, rs, hb, hQ⟩ := h
  unfold isiB at hb
  split at hb
  · obtain ⟨U, e, k, hr⟩ := hb
    obtain ⟨x, y, rfl⟩ := two_of l
    obtain ⟨O, f1, f2, n, h1, h2, r⟩ := RS.two rs
    have e2 := h2.ty
    cases e2
    exact call_isi pins s σ H _ us Q I rx ⟨x, _, _, _, _, rfl, .ty _, tyX_of h1 e, kit_ty k, hQ _ _ _ H hr (rs.bl _)⟩
  · exact hb.elim
/-- all(xs), any(xs) over a made list of truths -/
def blsV : List D → Option (List Bool)
  | [] => some []
  | .bl b :: ds => (blsV ds).map (b :: ·)
  | _ => none
def allB : BM := fun ms R => match ms with
  | [a] => ∃ ds bs, lsV a = some ds ∧ blsV ds = some bs ∧ R (.v (.bl (bs.all id))) ms
  | _ => False
def anyB : BM := fun ms R => match ms with
  | [a] => ∃ ds bs, lsV a = some ds ∧ blsV ds = some bs ∧ R (.v (.bl (bs.any id))) ms
  | _ => False
theorem bls_of {K : PySem.W.Frag} {H : Hp} {O : List Addr} : ∀ {vs : List V} {ds : List D} {bs : List Bool}, RDs K H O vs ds → blsV ds = some bs → vs = bs.map V.bl
  | _, _, _, .nil, e => by cases e; rfl
  | _, _, _, .cons (d := d) (ds := ds) h r, e => by
    cases h with
    | bl b =>
      rw [blsV] at e
      cases q : blsV ds with
      | none => rw [q] at e; cases e
      | some bs => rw [q] at e; cases e; rw [bls_of r q]; rfl
    | _ => cases e
theorem c_all (hc : X.calm = true) : CallR X (.builtin "all") (rB X.K allB) := by
  intro pins s σ H xs us Q I rx h
  obtain ⟨L, ms, R, l, rs, hb, hQ⟩ := h
  unfold allB at hb
  split at hb
  · obtain ⟨ds, bs, e0, e1, hr⟩ := hb
    obtain ⟨x, rfl⟩ := one_of l
    obtain ⟨O, f1, n, h1, r⟩ := RS.one rs
    obtain ⟨a, vs, e2, s1, r1⟩ := h1.ls e0
    cases e2
    have e3 := bls_of r1 e1
    subst e3
    exact cr_all hc pins s σ H _ us Q I rx ⟨a, bs, rfl, s1, hQ _ _ _ H hr (rs.bl _)⟩
  · exact hb.elim
theorem c_any (hc : X.calm = true) : CallR X (.builtin "any") (rB X.K anyB) := by
  intro pins s σ H xs us Q I rx h
  obtain ⟨L, ms, R, l, rs, hb, hQ⟩ := h
  unfold anyB at hb
  split at hb
  · obtain ⟨ds, bs, e0, e1, hr⟩ := hb
    obtain ⟨x, rfl⟩ := one_of l
    obtain ⟨O, f1, n, h1, r⟩ := RS.one rs
    obtain ⟨a, vs, e2, s1, r1⟩ := h1.ls e0
    cases e2
    have e3 := bls_of r1 e1
    subst e3
    exact cr_any hc pins s σ H _ us Q I rx ⟨a, bs, rfl, s1, hQ _ _ _ H hr (rs.bl _)⟩
  · exact hb.elim
end
end DM

/-! Tests, displays, statements, loops. -/
namespace DM
open PySem PySem.Spec PyProof.Rows
open L2
variable [Tabs]
section
variable {X : Cx} {W : WX} {mask : List Bool}

/-! ### tests -/
/-- an expression that gives True or False -/
theorem dt_of {e : Expr} {F : FE} (h : DE X W e F) (he : ∀ whole, isTrue e X.env whole = (do let v ← whole; standAt e.pos; holding [v] (truthy v)) := by intro _; rfl) : DT X W e (tOf F) :=
  ⟨pt_le (pt_val h.pe he) fun σ H Q h => by
    obtain ⟨G, S, R, XR, l, rs, hF, hQ, hX⟩ := h
    refine ⟨G, S, _, XR, l, rs, hF, fun a S1 x H1 l1 hb rs1 => ?_, hX⟩
    obtain ⟨b, e, k⟩ := RS.asB rs1 hb
    exact ⟨b, e, hQ b S1 H1 l1 k rs1.drop⟩⟩
/-- any expression, by its truth -/
theorem dt_tru {e : Expr} {F : FE} (h : DE X W e F) (he : ∀ whole, isTrue e X.env whole = (do let v ← whole; standAt e.pos; holding [v] (truthy v)) := by intro _; rfl) : DT X W e (tTru F) :=
  ⟨pt_le (pt_truth h.pe he) fun σ H Q h => by
    obtain ⟨G, S, R, XR, l, rs, hF, hQ, hX⟩ := h
    refine ⟨G, S, _, XR, l, rs, hF, fun a S1 x H1 l1 hb rs1 => ?_, hX⟩
    obtain ⟨d, z1, r1⟩ := RS.asD rs1 hb
    obtain ⟨O, f1, n, h1, r⟩ := RS.one r1
    cases h1 with
    | v h1 =>
      obtain ⟨b, e, k⟩ := tru_of h1 z1
      exact ⟨b, e, hQ b S1 H1 l1 k rs1.drop⟩⟩
def tNt (F : FT) : FT := fun S R XR => F S (fun b S' => R (!b) S') XR
theorem dt_not {e : Expr} {F : FT} {pos : Pos} (h : DT X W e F) : DT X W (.UnaryOp .Not e pos) (tNt F) := ⟨pt_le (pt_not h.pt) fun σ H Q h => by
  obtain ⟨G, S, R, XR, l, rs, hF, hQ, hX⟩ := h
  exact ⟨G, S, _, XR, l, rs, hF, fun b S1 H1 l1 hb rs1 => hQ _ S1 H1 l1 hb rs1, hX⟩⟩
def tA2 (F F' : FT) : FT := fun S R XR => F S (fun b S' => iteP b (F' S' R XR) (R false S')) XR
def tO2 (F F' : FT) : FT := fun S R XR => F S (fun b S' => iteP b (R true S') (F' S' R XR)) XR
theorem dw_and1 {e : Expr} {F : FT} {pos : Pos} (h : DT X W e F) : DW X W (.BoolOp .And [e] pos) F := ⟨pw_and1 h.pt⟩
theorem dw_or1 {e : Expr} {F : FT} {pos : Pos} (h : DT X W e F) : DW X W (.BoolOp .Or [e] pos) F := ⟨pw_or1 h.pt⟩
theorem dw_and {a b : Expr} {rest : List Expr} {F F' : FT} {pos : Pos} (h : DT X W a F) (h' : DW X W (.BoolOp .And (b :: rest) pos) F') : DW X W (.BoolOp .And (a :: b :: rest) pos) (tA2 F F') :=
  ⟨pw_le (pw_and h.pt h'.pw) fun σ H Q h => by
    obtain ⟨G, S, R, XR, l, rs, hF, hQ, hX⟩ := h
    refine ⟨G, S, _, XR, l, rs, hF, fun c S1 H1 l1 hb rs1 => ?_, hX⟩
    cases c with
    | true =>
      rw [iteP_t] at hb; rw [if_pos rfl]
      exact ⟨G, S1, R, XR, l1, rs1, hb, hQ, hX⟩
    | false =>
      rw [iteP_f] at hb; rw [if_neg (by decide)]
      exact hQ _ S1 H1 l1 hb rs1⟩
theorem dw_or {a b : Expr} {rest : List Expr} {F F' : FT} {pos : Pos} (h : DT X W a F) (h' : DW X W (.BoolOp .Or (b :: rest) pos) F') : DW X W (.BoolOp .Or (a :: b :: rest) pos) (tO2 F F') :=
  ⟨pw_le (pw_or h.pt h'.pw) fun σ H Q h => by
    obtain ⟨G, S, R, XR, l, rs, hF, hQ, hX⟩ := h
    refine ⟨G, S, _, XR, l, rs, hF, fun c S1 H1 l1 hb rs1 => ?_, hX⟩
    cases c with
    | true =>
      rw [iteP_t] at hb; rw [if_pos rfl]
      exact hQ _ S1 H1 l1 hb rs1
    | false =>
      rw [iteP_f] at hb; rw [if_neg (by decide)]
      exact ⟨G, S1, R, XR, l1, rs1, hb, hQ, hX⟩⟩
theorem dt_w {e : Expr} {F : FT} (h : DW X W e F) : DT X W e F := ⟨h.pw.pt⟩

/-! ### truth values as values; the conditional expression -/
def vNt (F : FE) : FE := fun S R XR => F S (fun m S' => asB m fun b => R (.v (.bl (!b))) S') XR
theorem de_not {e : Expr} {F : FE} {pos : Pos} (h : DE X W e F) : DE X W (.UnaryOp .Not e pos) (vNt F) := ⟨pe_le (pe_not h.pe) fun σ H Q h => by
  obtain ⟨G, S, R, XR, l, rs, hF, hQ, hX⟩ := h
  refine ⟨G, S, _, XR, l, rs, hF, fun a S1 x H1 l1 hb rs1 => ?_, hX⟩
  obtain ⟨b, e, k⟩ := RS.asB rs1 hb
  exact ⟨b, e, hQ _ S1 _ H1 l1 k (rs1.drop.bl _)⟩⟩
def vA2 (F F' : FE) : FE := fun S R XR => F S (fun m S' => asB m fun b => iteP b (F' S' R XR) (R (.v (.bl false)) S')) XR
def vO2 (F F' : FE) : FE := fun S R XR => F S (fun m S' => asB m fun b => iteP b (R (.v (.bl true)) S') (F' S' R XR)) XR
theorem de_one {op} {e : Expr} {F : FE} {pos : Pos} (h : DE X W e F) : DE X W (.BoolOp op [e] pos) F := ⟨pe_one h.pe⟩
theorem de_and {a b : Expr} {rest : List Expr} {F F' : FE} {pos : Pos} (h : DE X W a F) (h' : DE X W (.BoolOp .And (b :: rest) pos) F') : DE X W (.BoolOp .And (a :: b :: rest) pos) (vA2 F F') :=
  ⟨pe_le (pe_and h.pe h'.pe) fun σ H Q h => by
    obtain ⟨G, S, R, XR, l, rs, hF, hQ, hX⟩ := h
    refine ⟨G, S, _, XR, l, rs, hF, fun a S1 x H1 l1 hb rs1 => ?_, hX⟩
    obtain ⟨c, e, k⟩ := RS.asB rs1 hb
    refine ⟨c, e, ?_⟩
    cases c with
    | true =>
      rw [iteP_t] at k; rw [if_pos rfl]
      exact ⟨G, S1, R, XR, l1, rs1.drop, k, hQ, hX⟩
    | false =>
      rw [iteP_f] at k; rw [if_neg (by decide)]
      exact hQ _ S1 _ H1 l1 k (rs1.drop.bl _)⟩
theorem de_or {a b : Expr} {rest : List Expr} {F F' : FE} {pos : Pos} (h : DE X W a F) (h' : DE X W (.BoolOp .Or (b :: rest) pos) F') : DE X W (.BoolOp .Or (a :: b :: rest) pos) (vO2 F F') :=
  ⟨pe_le (pe_or h.pe h'.pe) fun σ H Q h => by
    obtain ⟨G, S, R, XR, l, rs, hF, hQ, hX⟩ := h
    refine ⟨G, S, _, XR, l, rs, hF, fun a S1 x H1 l1 hb rs1 => ?_, hX⟩
    obtain ⟨c, e, k⟩ := RS.asB rs1 hb
    refine ⟨c, e, ?_⟩
    cases c with
    | true =>
      rw [iteP_t] at k; rw [if_pos rfl]
      exact hQ _ S1 _ H1 l1 k (rs1.drop.bl _)
    | false =>
      rw [iteP_f] at k; rw [if_neg (by decide)]
      exact ⟨G, S1, R, XR, l1, rs1.drop, k, hQ, hX⟩⟩
def fIf (c : FT) (F F' : FE) : FE := fun S R XR => c S (fun b S' => iteP b (F S' R XR) (F' S' R XR)) XR
theorem de_if {c a b : Expr} {fc : FT} {F F' : FE} {pos : Pos} (hc : DT X W c fc) (ha : DE X W a F) (hb : DE X W b F') : DE X W (.IfExp c a b pos) (fIf fc F F') :=
  ⟨pe_le (pe_ifExp hc.pt ha.pe hb.pe) fun σ H Q h => by
    obtain ⟨G, S, R, XR, l, rs, hF, hQ, hX⟩ := h
    refine ⟨G, S, _, XR, l, rs, hF, fun c S1 H1 l1 hb rs1 => ?_, hX⟩
    cases c with
    | true =>
      rw [iteP_t] at hb; rw [if_pos rfl]
      exact ⟨G, S1, R, XR, l1, rs1, hb, hQ, hX⟩
    | false =>
      rw [iteP_f] at hb; rw [if_neg (by decide)]
      exact ⟨G, S1, R, XR, l1, rs1, hb, hQ, hX⟩⟩
/-- a < b < c -/
def fCh (g g' : BM) (fa fb fc : FE) : FE := fun S R XR => fa S (fun a S1 => fb S1 (fun b S2 => g [a, b] fun r ms' => asB r fun k => ∃ a' b', ms' = [a', b'] ∧ iteP k (fc S2 (fun c S3 => g' [b', c] fun r' _ => R r' S3) XR) (R (.v (.bl false)) S2)) XR) XR
theorem de_ch {op op' : CmpOp} {g g' : BM} {a b c : Expr} {fa fb fc : FE} {pos : Pos} (ho : OpR X (compareOp op) (r2B X.K g)) (ho' : OpR X (compareOp op') (r2B X.K g')) (ha : DE X W a fa) (hb : DE X W b fb) (hc : DE X W c fc) (hm : lastMarks [op, op'] [b, c] = false := by rfl) : DE X W (.Compare a [op, op'] [b, c] pos) (fCh g g' fa fb fc) :=
  ⟨pe_le (pe_chain ho ho' ha.pe hb.pe hc.pe hm) fun σ H Q h => by
    obtain ⟨G, S, R, XR, l, rs, hF, hQ, hX⟩ := h
    refine ⟨G, S, _, XR, l, rs, hF, fun a S1 x H1 l1 h1 rs1 => ?_, hX⟩
    refine ⟨(some x, a) :: G, S1, _, XR, l1, rs1, h1, fun b S2 y H2 l2 h2 rs2 => ?_, fun c fs S' d H' l' hx xo => hX c fs S' d H' l' hx xo.drop⟩
    refine ⟨G ++ σ.zip S2, [a, b], _, rfl, rs2.swap, h2, fun r ms' z H3 hr rs3 => ?_⟩
    obtain ⟨k, e, a', b', e2, hk⟩ := RS.asB rs3 hr
    subst e2
    refine ⟨k, e, ?_⟩
    have rs4 : RS X.K H3 ((some x, a') :: (some y, b') :: (G ++ σ.zip S2)) := rs3.drop
    cases k with
    | true =>
      rw [iteP_t] at hk; rw [if_pos rfl]
      refine ⟨(some y, b') :: G, S2, _, XR, l2, rs4.drop, hk, fun c S3 w H4 l3 h3 rs5 => ?_, fun c fs S' d H' l' hx xo => hX c fs S' d H' l' hx xo.drop⟩
      exact ⟨G ++ σ.zip S3, [b', c], _, rfl, rs5.swap, h3, fun r' ms' z' H5 hr' rs6 => hQ r' S3 z' H5 l3 hr' (RS.perm (List.Perm.refl _) (by
        have q : RS X.K H5 (((some z', r') :: ((List.map some [y, w]).zip ms')) ++ (G ++ σ.zip S3)) := rs6
        have q2 := RS.perm (List.perm_append_comm.append_right (G ++ σ.zip S3) : (([(some z', r')] : List Pr) ++ ((List.map some [y, w]).zip ms') ++ (G ++ σ.zip S3)).Perm _) (by simpa using q)
        rw [List.append_assoc] at q2
        exact RS.dropL q2))⟩
    | false =>
      rw [iteP_f] at hk; rw [if_neg (by decide)]
      exact hQ _ S2 _ H3 l2 hk (rs4.drop.drop.bl _)⟩
theorem dt_ch {op op' : CmpOp} {g g' : BM} {a b c : Expr} {fa fb fc : FE} {pos : Pos} (ho : OpR X (compareOp op) (r2B X.K g)) (ho' : OpR X (compareOp op') (r2B X.K g')) (ha : DE X W a fa) (hb : DE X W b fb) (hc : DE X W c fc) (hm : lastMarks [op, op'] [b, c] = false := by rfl) : DT X W (.Compare a [op, op'] [b, c] pos) (tOf (fCh g g' fa fb fc)) :=
  ⟨pt_le (pt_chain ho ho' ha.pe hb.pe hc.pe hm) fun σ H Q h => by
    obtain ⟨G, S, R, XR, l, rs, hF, hQ, hX⟩ := h
    refine ⟨G, S, _, XR, l, rs, hF, fun a S1 x H1 l1 h1 rs1 => ?_, hX⟩
    refine ⟨(some x, a) :: G, S1, _, XR, l1, rs1, h1, fun b S2 y H2 l2 h2 rs2 => ?_, fun c fs S' d H' l' hx xo => hX c fs S' d H' l' hx xo.drop⟩
    refine ⟨G ++ σ.zip S2, [a, b], _, rfl, rs2.swap, h2, fun r ms' z H3 hr rs3 => ?_⟩
    obtain ⟨k, e, a', b', e2, hk⟩ := RS.asB rs3 hr
    subst e2
    refine ⟨k, e, ?_⟩
    have rs4 : RS X.K H3 ((some x, a') :: (some y, b') :: (G ++ σ.zip S2)) := rs3.drop
    cases k with
    | true =>
      rw [iteP_t] at hk; rw [if_pos rfl]
      refine ⟨(some y, b') :: G, S2, _, XR, l2, rs4.drop, hk, fun c S3 w H4 l3 h3 rs5 => ?_, fun c fs S' d H' l' hx xo => hX c fs S' d H' l' hx xo.drop⟩
      refine ⟨G ++ σ.zip S3, [b', c], _, rfl, rs5.swap, h3, fun r' ms' z' H5 hr' rs6 => ?_⟩
      obtain ⟨k', e', hk'⟩ := RS.asB rs6 hr'
      exact ⟨k', e', hQ k' S3 H5 l3 hk' (RS.dropL rs6.drop)⟩
    | false =>
      rw [iteP_f] at hk; rw [if_neg (by decide)]
      exact ⟨false, rfl, hQ _ S2 H3 l2 hk rs4.drop.drop⟩⟩

/-! ### displays -/
abbrev FA' := FA
def faNil : FA := fun S R _ => R [] S
def faCons (F : FE) (Fr : FA) : FA := fun S R XR => F S (fun m S1 => Fr S1 (fun ms S2 => R (m :: ms) S2) XR) XR
theorem da_nil : DA X W [] faNil := ⟨pa_le pa_nil fun σ H Q h => by
  obtain ⟨G, S, R, XR, l, rs, hF, hQ, hX⟩ := h
  exact hQ [] S [] H l rfl hF rs⟩
theorem da_cons {e : Expr} {es : List Expr} {F : FE} {Fr : FA} (ha : DE X W e F) (hr : DA X W es Fr) (hs : starEach (e :: es) X.env = (false, eval e X.env) :: starEach es X.env := by rfl) : DA X W (e :: es) (faCons F Fr) :=
  ⟨pa_le (pa_cons ha.pe hr.pa hs) fun σ H Q h => by
    obtain ⟨G, S, R, XR, l, rs, hF, hQ, hX⟩ := h
    refine ⟨G, S, _, XR, l, rs, hF, fun a S1 v H1 l1 h1 rs1 => ?_, hX⟩
    refine ⟨(some v, a) :: G, S1, _, XR, l1, rs1, h1, fun as S2 vs H2 l2 lv h2 rs2 => ?_, fun c fs S' d H' l' hx xo => hX c fs S' d H' l' hx xo.drop⟩
    refine hQ (a :: as) S2 (v :: vs) H2 l2 (congrArg (· + 1) lv) h2 ?_
    exact RS.perm (perm_mid _ _ _) rs2⟩
def fTup (F : FA) : FE := fun S R XR => F S (fun ms S' => chk (Nat.ble ms.length sizeLine && fzoks ms) (R (.v (.tup (fzs ms))) S')) XR
def fLst (F : FA) : FE := fun S R XR => F S (fun ms S' => chk (Nat.ble ms.length sizeLine && fzoks ms) (R (.ml (fzs ms)) S')) XR
theorem de_tup {es : List Expr} {x1} {F : FA} {pos : Pos} (h : DA X W es F) : DE X W (.Tuple es x1 pos) (fTup F) := ⟨pe_le (pe_tup h.pa) fun σ H Q h => by
  obtain ⟨G, S, R, XR, l, rs, hF, hQ, hX⟩ := h
  exact ⟨G, S, _, XR, l, rs, hF, fun ms S1 vs H1 l1 lv h1 rs1 => by
    have h1 := h1.ok
    have h2 := Bool.and_eq_true_iff.mp h1.1
    exact ⟨by rw [lv]; exact Nat.le_of_ble_eq_true h2.1, fun p hp => hQ _ S1 _ _ l1 h1.2 (RS.newTup (rs1.frozen lv h2.2) hp)⟩, hX⟩⟩
theorem de_lst {es : List Expr} {F : FA} {pos : Pos} (h : DA X W es F) : DE X W (.List es pos) (fLst F) := ⟨pe_le (pe_lst h.pa) fun σ H Q h => by
  obtain ⟨G, S, R, XR, l, rs, hF, hQ, hX⟩ := h
  exact ⟨G, S, _, XR, l, rs, hF, fun ms S1 vs H1 l1 lv h1 rs1 => by
    have h1 := h1.ok
    have h2 := Bool.and_eq_true_iff.mp h1.1
    exact ⟨by rw [lv]; exact Nat.le_of_ble_eq_true h2.1, fun p hp => hQ _ S1 _ _ l1 h1.2 (RS.newLst (rs1.frozen lv h2.2) hp)⟩, hX⟩⟩

/-! ### statements -/
def sNx : FS := fun E S => E.nx S
def sSeq (f g : FS) : FS := fun E S => f { E with nx := fun S' => g E S' } S
theorem dss_nil : DSs X W mask [] sNx := ⟨pss_le pss_nil fun D σ H h => by
  obtain ⟨G, S, E, l, rs, hF, nx, rt, bk, ct, ex⟩ := h
  exact nx S σ H (Ag.refl σ) l hF rs⟩
theorem dss_cons {st : Stmt} {rest : List Stmt} {f g : FS} (h1 : DS X W mask st f) (h2 : DSs X W mask rest g) : DSs X W mask (st :: rest) (sSeq f g) := ⟨pss_le (pss_cons h1.ps h2.ps) fun D σ H h => by
  obtain ⟨G, S, E, l, rs, hF, nx, rt, bk, ct, ex⟩ := h
  exact ⟨G, S, _, l, rs, hF, fun S' σ' H' ag l' hn rs' => ⟨G, S', E, l', rs', hn, fun S2 σ2 H2 ag2 l2 => nx S2 σ2 H2 (ag.trans ag2) l2, fun m S2 v σ2 H2 ag2 l2 => rt m S2 v σ2 H2 (ag.trans ag2) l2,
    fun S2 σ2 H2 ag2 l2 => bk S2 σ2 H2 (ag.trans ag2) l2, fun S2 σ2 H2 ag2 l2 => ct S2 σ2 H2 (ag.trans ag2) l2, fun c fs S2 d σ2 H2 ag2 l2 => ex c fs S2 d σ2 H2 (ag.trans ag2) l2⟩, rt, bk, ct, ex⟩⟩
theorem dss_one {st : Stmt} {f : FS} (h1 : DS X W mask st f) : DSs X W mask [st] f := ⟨pss_le (pss_one h1.ps) fun D σ H h => h⟩
def sBk : FS := fun E S => E.bk S
def sCt : FS := fun E S => E.ct S
theorem ds_pass {pos : Pos} : DS X W mask (.Pass pos) sNx := ⟨ps_le ps_pass fun D σ H h => by
  obtain ⟨G, S, E, l, rs, hF, nx, rt, bk, ct, ex⟩ := h
  exact nx S σ H (Ag.refl σ) l hF rs⟩
theorem ds_break {pos : Pos} : DS X W mask (.Break pos) sBk := ⟨ps_le ps_break fun D σ H h => by
  obtain ⟨G, S, E, l, rs, hF, nx, rt, bk, ct, ex⟩ := h
  exact bk S σ H (Ag.refl σ) l hF rs⟩
theorem ds_continue {pos : Pos} : DS X W mask (.Continue pos) sCt := ⟨ps_le ps_continue fun D σ H h => by
  obtain ⟨G, S, E, l, rs, hF, nx, rt, bk, ct, ex⟩ := h
  exact ct S σ H (Ag.refl σ) l hF rs⟩
def sFalse : FS := fun _ _ => False
theorem ds_never {st : Stmt} : DS X W mask st sFalse := ⟨ps_le ps_never fun D σ H h => by
  obtain ⟨G, S, E, l, rs, hF, nx, rt, bk, ct, ex⟩ := h
  exact hF⟩
def sEx (F : FE) : FS := fun E S => F S (fun _ S' => E.nx S') E.ex
theorem ds_expr {e : Expr} {F : FE} {pos : Pos} (h : DE X W e F) (hs : swapsWith e none pos.line X.env = pure false := by rfl) : DS X W mask (.Expr e pos) (sEx F) := ⟨ps_le (ps_expr h.pe hs) fun D σ H h => by
  obtain ⟨G, S, E, l, rs, hF, nx, rt, bk, ct, ex⟩ := h
  exact ⟨G, S, _, E.ex, l, rs, hF, fun m S' v H' l' hm rs' => nx S' σ H' (Ag.refl σ) l' hm rs'.drop, fun c fs S' d H' l' hx xo => ex c fs S' d σ H' (Ag.refl σ) l' hx xo⟩⟩
def sRt (F : FE) : FS := fun E S => F S E.rt E.ex
theorem ds_ret {e : Expr} {F : FE} {pos : Pos} (h : DE X W e F) : DS X W mask (.Return (some e) pos) (sRt F) := ⟨ps_le (ps_ret h.pe) fun D σ H h => by
  obtain ⟨G, S, E, l, rs, hF, nx, rt, bk, ct, ex⟩ := h
  exact ⟨G, S, _, E.ex, l, rs, hF, fun m S' v H' l' hm rs' => rt m S' v σ H' (Ag.refl σ) l' hm rs', fun c fs S' d H' l' hx xo => ex c fs S' d σ H' (Ag.refl σ) l' hx xo⟩⟩
def sRtN : FS := fun E S => E.rt (.v .non) S
theorem ds_retN {pos : Pos} : DS X W mask (.Return none pos) sRtN := ⟨ps_le ps_retN fun D σ H h => by
  obtain ⟨G, S, E, l, rs, hF, nx, rt, bk, ct, ex⟩ := h
  exact rt _ S _ σ H (Ag.refl σ) l hF (rs.data fun _ => .non)⟩
def sIf (c : FT) (f g : FS) : FS := fun E S => c S (fun b S' => iteP b (f E S') (g E S')) E.ex
theorem ds_if {c : Expr} {a b : List Stmt} {fc : FT} {f g : FS} {pos : Pos} (hc : DT X W c fc) (ha : DSs X W mask a f) (hb : DSs X W mask b g) : DS X W mask (.If c a b pos) (sIf fc f g) := ⟨ps_le (ps_if hc.pt ha.ps hb.ps) fun D σ H h => by
  obtain ⟨G, S, E, l, rs, hF, nx, rt, bk, ct, ex⟩ := h
  refine ⟨G, S, _, E.ex, l, rs, hF, fun c S' H' l' hm rs' => ?_, fun c fs S' d H' l' hx xo => ex c fs S' d σ H' (Ag.refl σ) l' hx xo⟩
  cases c with
  | true =>
    rw [iteP_t] at hm; rw [if_pos rfl]
    exact ⟨G, S', E, l', rs', hm, nx, rt, bk, ct, ex⟩
  | false =>
    rw [iteP_f] at hm; rw [if_neg (by decide)]
    exact ⟨G, S', E, l', rs', hm, nx, rt, bk, ct, ex⟩⟩

/-! ### targets -/
abbrev FG := M → List M → (List M → Prop) → XM → Prop
abbrev FGs := List M → List M → (List M → Prop) → XM → Prop
def tDG (K : PySem.W.Frag) (W : WX) (mask : List Bool) (F : FG) : TG := fun v σ H Q => ∃ (G : List Pr) (S : List M) (m : M) (R : List M → Prop) (XR : XM), σ.length = S.length ∧ RS K H ((some v, m) :: (G ++ σ.zip S)) ∧ F m S R XR ∧
  (∀ S' σ' H', Ag mask σ σ' → σ'.length = S'.length → R S' → RS K H' (G ++ σ'.zip S') → Q σ' H') ∧
  (∀ c fs S' d σ' H', Ag mask σ σ' → σ'.length = S'.length → XR (c, fs) S' → XOk K H' d fs (G ++ σ'.zip S') → W c d σ' H')
structure DG (X : Cx) (W : WX) (mask : List Bool) (tg : Expr) (F : FG) : Prop where
  pg : PG X tg (tDG X.K W mask F)
theorem pg_le {e : Expr} {t t' : TG} (h : PG X e t) (k : ∀ v σ H Q, t' v σ H Q → t v σ H Q) : PG X e t' := ⟨fun pins s σ H v u Q I r q => h.run pins s σ H v u Q I r (k v σ H Q q)⟩
/-- the names of a tuple target by their slots -/
def setAll : List Nat → List M → List M → List M
  | i :: is, m :: ms, S => setAll is ms (S.set i m)
  | _, _, S => S
def gNm (i : Nat) : FG := fun m S R _ => setK S i m R
theorem RS.put' {K : PySem.W.Frag} {H : Hp} {G : List Pr} {σ : L2.St} {S : List M} {i : Nat} {x : Option V} {m : M} (h : RS K H ((x, m) :: (G ++ σ.zip S))) (l : σ.length = S.length) : RS K H (G ++ (σ.set i x).zip (S.set i m)) := by
  by_cases hi : i < S.length
  · exact h.put l hi
  · rw [List.set_eq_of_length_le (by omega), List.set_eq_of_length_le (by omega)]
    exact h.drop
theorem dg_name {i : Nat} {x : Str} {pos : Pos} (hN : X.N.Nodup) (hi : X.N[i]? = some x) (hx : Loc X.env.scope x) (hm : mask[i]? ≠ some true := by decide) (hf : X.fn x = true ∨ X.env.scope.names.lookup x = some .local := by first | exact .inl rfl | exact .inr rfl | assumption) : DG X W mask (.Name x pos) (gNm i) :=
  ⟨pg_le (pg_name hN hi hx hf) fun v σ H Q h => by
    obtain ⟨G, S, m, R, XR, l, rs, hF, hQ, hX⟩ := h
    exact hQ _ _ _ (Ag.set _ hm) (by rw [List.length_set, List.length_set]; exact l) (Eq.mp (setK_eq _ _ _ _) hF) (rs.put' l)⟩
def tDGs (K : PySem.W.Frag) (W : WX) (mask : List Bool) (F : FGs) : TGs := fun vs σ H Q => ∃ (G : List Pr) (S : List M) (ms : List M) (R : List M → Prop) (XR : XM), σ.length = S.length ∧ vs.length = ms.length ∧ RS K H ((vs.map some).zip ms ++ (G ++ σ.zip S)) ∧ F ms S R XR ∧
  (∀ S' σ' H', Ag mask σ σ' → σ'.length = S'.length → R S' → RS K H' (G ++ σ'.zip S') → Q σ' H') ∧
  (∀ c fs S' d σ' H', Ag mask σ σ' → σ'.length = S'.length → XR (c, fs) S' → XOk K H' d fs (G ++ σ'.zip S') → W c d σ' H')
structure DGs (X : Cx) (W : WX) (mask : List Bool) (tg : List Expr) (F : FGs) : Prop where
  pg : PGs X tg (tDGs X.K W mask F)
theorem pgs_le {e : List Expr} {t t' : TGs} (h : PGs X e t) (k : ∀ v σ H Q, t' v σ H Q → t v σ H Q) : PGs X e t' := ⟨fun pins s σ H v u Q I r q => h.run pins s σ H v u Q I r (k v σ H Q q)⟩
def gsNil : FGs := fun ms S R _ => ms = [] ∧ R S
def gsCons (f : FG) (fr : FGs) : FGs := fun ms S R XR => match ms with
  | m :: ms => f m S (fun S1 => fr ms S1 R XR) XR
  | [] => False
theorem dgs_nil : DGs X W mask [] gsNil := ⟨pgs_le pgs_nil fun vs σ H Q h => by
  obtain ⟨G, S, ms, R, XR, l, lv, rs, hF, hQ, hX⟩ := h
  obtain ⟨rfl, hr⟩ := hF
  cases vs with
  | nil => exact ⟨rfl, hQ S σ H (Ag.refl σ) l hr rs⟩
  | cons v vs => cases lv⟩
theorem dgs_cons {e : Expr} {es : List Expr} {f : FG} {fr : FGs} (h1 : DG X W mask e f) (h2 : DGs X W mask es fr)
    (hs : (assignEach (e :: es) X.env).map (·.2) = assign e X.env :: (assignEach es X.env).map (·.2) := by rfl) : DGs X W mask (e :: es) (gsCons f fr) := ⟨pgs_le (pgs_cons h1.pg h2.pg hs) fun vs σ H Q h => by
  obtain ⟨G, S, ms, R, XR, l, lv, rs, hF, hQ, hX⟩ := h
  cases ms with
  | nil => exact hF.elim
  | cons m ms =>
    cases vs with
    | nil => cases lv
    | cons v vs =>
      refine ⟨v, vs, rfl, ?_⟩
      have rs1 : RS X.K H ((some v, m) :: (((vs.map some).zip ms ++ G) ++ σ.zip S)) := by rw [List.append_assoc]; exact rs
      refine ⟨(vs.map some).zip ms ++ G, S, m, _, XR, l, rs1, hF, fun S1 σ1 H1 ag1 l1 h1' rs2 => ?_, fun c fs S' d σ' H' ag l' hx xo => hX c fs S' d σ' H' ag l' hx (xo.imp fun L1 r => ?_)⟩
      · rw [List.append_assoc] at rs2
        exact ⟨G, S1, ms, R, XR, l1, Nat.succ.inj lv, rs2, h1', fun S2 σ2 H2 ag2 l2 => hQ S2 σ2 H2 (ag1.trans ag2) l2, fun c fs S2 d σ2 H2 ag2 l2 => hX c fs S2 d σ2 H2 (ag1.trans ag2) l2⟩
      · rw [List.append_assoc] at r
        exact RS.dropL (RS.rot r)⟩
/-- a tuple target -/
def gTp (n : Nat) (f : FGs) : FG := fun m S R XR => ∃ ds, sqV m = some ds ∧ ds.length = n ∧ f (ds.map M.v) S R XR
theorem RS.items {K : PySem.W.Frag} {H : Hp} {O : List Addr} {vs : List V} {ds : List D} {L : List Pr} (n : O.Nodup) (r : RDs K H O vs ds) (q : RL K H O L O) : RS K H ((vs.map some).zip (ds.map M.v) ++ L) := by
  have h : ∀ {vs : List V} {ds : List D}, RDs K H O vs ds → RL K H O ((vs.map some).zip (ds.map M.v)) [] := by
    intro vs ds r
    induction vs generalizing ds with
    | nil => cases r; exact .nil q.tabs
    | cons v vs ih => cases r with | cons h r => exact .cons (fp := []) (.v h) (ih r)
  exact ⟨O, n, (h r).append q⟩
theorem sqV_lt {m : M} {ds : List D} (h : sqV m = some ds) : lsV m = some ds ∨ tpV m = some ds := by
  unfold sqV at h
  split at h <;> first | cases h; exact .inl rfl | cases h; exact .inr rfl | cases h
theorem pg_or {e : Expr} {t1 t2 : TG} (h1 : PG X e t1) (h2 : PG X e t2) : PG X e fun v σ H Q => t1 v σ H Q ∨ t2 v σ H Q := ⟨fun pins s σ H v u Q I r h => h.elim (h1.run pins s σ H v u Q I r) (h2.run pins s σ H v u Q I r)⟩
theorem dg_tup {es : List Expr} {k n : Nat} {pos : Pos} {f : FGs} (hc : X.calm = true) (h : DGs X W mask es f) (hn : (assignEach es X.env).length = n := by rfl) (hst : (assignEach es X.env).findIdx? (·.1) = none := by rfl) : DG X W mask (.Tuple es k pos) (gTp n f) := ⟨pg_le (pg_or (pg_tup (n := n) hc h.pg hn hst) (pg_unl (n := n) hc h.pg hn hst)) fun v σ H Q h => by
  obtain ⟨G, S, m, R, XR, l, rs, hF, hQ, hX⟩ := h
  obtain ⟨ds, e0, e1, hf⟩ := hF
  obtain ⟨O, f1, nd, h1, r⟩ := RS.one rs
  rcases sqV_lt e0 with e0 | e0
  · obtain ⟨a, vs, e2, s1, r1⟩ := h1.ls e0
    cases e2
    refine .inr ⟨a, vs, rfl, s1, r1.length.trans e1, ?_⟩
    refine ⟨(some (.ref a), m) :: G, S, ds.map M.v, R, XR, l, by rw [List.length_map]; exact r1.length, RS.items nd r1 r, hf, fun S' σ' H' ag l' hr rs' => hQ S' σ' H' ag l' hr rs'.drop, fun c fs S' d σ' H' ag l' hx xo => hX c fs S' d σ' H' ag l' hx xo.drop⟩
  · obtain ⟨a, vs, e2, s1, r1⟩ := h1.tp e0
    cases e2
    refine .inl ⟨a, vs, rfl, s1, r1.length.trans e1, ?_⟩
    refine ⟨(some (.ref a), m) :: G, S, ds.map M.v, R, XR, l, by rw [List.length_map]; exact r1.length, RS.items nd r1 r, hf, fun S' σ' H' ag l' hr rs' => hQ S' σ' H' ag l' hr rs'.drop, fun c fs S' d σ' H' ag l' hx xo => hX c fs S' d σ' H' ag l' hx xo.drop⟩⟩
/-- o[i] = .. -/
def gSb (b : BM) (fo fi : FO) : FG := fun m S R XR => fo S (fun a S1 => fi S1 (fun c S2 => callB b [a, c, .m m] S2 fun _ S' => R S') XR) XR
def setR (K : PySem.W.Frag) (b : BM) : TSet := fun o i v H Q => rB K b [o, i, v] H fun _ H' => Q H'
theorem dg_sub {o i : Expr} {fo fi : FO} {b : BM} {pos : Pos} (ho : DO X W o fo) (hi : DO X W i fi) (hs : PSet X (setR X.K b))
    (ha : ∀ v, assign (.Subscript o i pos) X.env v = (do
      let ov ← holding [v] (eval o X.env)
      let iv ← holding [v, ov] (eval i X.env)
      standAt pos
      holding [v, ov, iv] (setItem ov iv v)
      release [v, ov, iv] []) := by intro _; rfl) : DG X W mask (.Subscript o i pos) (gSb b fo fi) := ⟨pg_le (pg_sub ho.pe hi.pe hs ha) fun v σ H Q h => by
  obtain ⟨G, S, m, R, XR, l, rs, hF, hQ, hX⟩ := h
  refine ⟨(some v, m) :: G, S, _, XR, l, rs, hF, fun a S1 x H1 l1 h1 ok1 rs1 => ?_, fun c fs S' d H' l' hx xo => hX c fs S' d σ H' (Ag.refl σ) l' hx xo.drop⟩
  refine ⟨(some x, arM a) :: (some v, m) :: G, S1, _, XR, l1, rs1, h1, fun c S2 y H2 l2 h2 ok2 rs2 => ?_, fun c fs S' d H' l' hx xo => hX c fs S' d σ H' (Ag.refl σ) l' hx xo.drop.drop⟩
  refine rB_of (as := [a, c, .m m]) (vs := [x, y, v]) l2 ⟨ok1, ok2, trivial, trivial⟩ rs2.swap h2 fun r S' w H' l' hr rs' => hQ S' σ H' (Ag.refl σ) l' hr rs'.drop⟩
def sAs (F : FE) (g : FG) : FS := fun E S => F S (fun m S' => g m S' E.nx E.ex) E.ex
theorem ds_asg {tg e : Expr} {F : FE} {g : FG} {pos : Pos} (he : DE X W e F) (hg : DG X W mask tg g) (hs : swapsWithSole [tg] e pos.line X.env = pure false := by rfl) (hw : swappedStores [tg] e X.env = pure none := by rfl) (h1 : (assignEach [tg] X.env).map (·.2) = [assign tg X.env] := by rfl) : DS X W mask (.Assign [tg] e pos) (sAs F g) := ⟨ps_le (ps_asg he.pe hg.pg hs hw h1) fun D σ H h => by
  obtain ⟨G, S, E, l, rs, hF, nx, rt, bk, ct, ex⟩ := h
  exact ⟨G, S, _, E.ex, l, rs, hF, fun m S' v H' l' hm rs' => ⟨G, S', m, E.nx, E.ex, l', rs', hm, nx, ex⟩, fun c fs S' d H' l' hx xo => ex c fs S' d σ H' (Ag.refl σ) l' hx xo⟩⟩
def sSet (i : Nat) (F : FE) : FS := fun E S => F S (fun m S' => setK S' i m E.nx) E.ex
theorem ds_set {i : Nat} {x : Str} {e : Expr} {F : FE} {pos' pos : Pos} (hN : X.N.Nodup) (hi : X.N[i]? = some x) (hx : Loc X.env.scope x) (he : DE X W e F) (hm : mask[i]? ≠ some true := by decide) (hs : swapsWith e (some (.Name x pos')) pos.line X.env = pure false := by rfl)
    (hf : X.fn x = true ∨ X.env.scope.names.lookup x = some .local := by first | exact .inl rfl | exact .inr rfl | assumption) : DS X W mask (.Assign [.Name x pos'] e pos) (sSet i F) := ⟨ps_le (ps_set hN hi hx he.pe hs hf) fun D σ H h => by
  obtain ⟨G, S, E, l, rs, hF, nx, rt, bk, ct, ex⟩ := h
  exact ⟨G, S, _, E.ex, l, rs, hF, fun m S' v H' l' hmm rs' => nx _ _ H' (Ag.set _ hm) (by rw [List.length_set, List.length_set]; exact l') (Eq.mp (setK_eq _ _ _ _) hmm) (rs'.put' l'), fun c fs S' d H' l' hx xo => ex c fs S' d σ H' (Ag.refl σ) l' hx xo⟩⟩
/-- x op= e -/
def hasB (i : Nat) (S : List M) : Bool := match S[i]? with
  | some .gone => false
  | some _ => true
  | none => false
theorem hasB.at {i : Nat} {S : List M} (h : hasB i S = true) : hasAt i S := by
  unfold hasB at h
  unfold hasAt
  cases e : S[i]? with
  | none => rw [e] at h; cases h
  | some m =>
    rw [e] at h
    cases m with
    | gone => cases h
    | _ => trivial
def sAug (i : Nat) (b : BM) (F : FE) : FS := fun E S => chk (hasB i S) <| F S (fun m S' => callB b [.n i, .m m] S' fun r S'' => setK S'' i r E.nx) E.ex
def r2I (K : PySem.W.Frag) (b : BM) : TIp := fun x y H Q => rB K b [x, y] H Q
theorem ds_aug {i : Nat} {x : Str} {e : Expr} {F : FE} {b : BM} {op : Operator} {pos' pos : Pos} (hN : X.N.Nodup) (hi : X.N[i]? = some x) (hx : Loc X.env.scope x) (he : DE X W e F) (ho : PIp X op (r2I X.K b)) (hm : mask[i]? ≠ some true := by decide)
    (hf : X.fn x = true ∨ X.env.scope.names.lookup x = some .local := by first | exact .inl rfl | exact .inr rfl | assumption) : DS X W mask (.AugAssign (.Name x pos') op e pos) (sAug i b F) := ⟨ps_le (ps_aug hN hi hx he.pe ho hf) fun D σ H h => by
  obtain ⟨G, S, E, l, rs, hF, nx, rt, bk, ct, ex⟩ := h
  have hF := hF.ok
  obtain ⟨m, e, n⟩ := (hasB.at hF.1).get
  obtain ⟨x', e1, r⟩ := rs.take l e
  obtain ⟨v, rfl⟩ := r.some_of n
  refine ⟨v, e1, G, S, _, E.ex, l, rs, hF.2, fun m S' y H' l' hmm rs' => ?_, fun c fs S' d H' l' hx xo => ex c fs S' d σ H' (Ag.refl σ) l' hx xo⟩
  exact rB_of (as := [.n i, .m m]) (vs := [v, y]) l' ⟨e1, trivial, trivial⟩ (rs'.add0 _) hmm fun r S'' z H'' l'' hr rs'' => nx _ _ H'' (Ag.set _ hm) (by rw [List.length_set, List.length_set]; exact l'') (Eq.mp (setK_eq _ _ _ _) hr) (rs''.put' l'')⟩

/-! ### while -/
def whN (c : FT) (b : FS) (E : EM) : Nat → List M → Prop
  | 0, _ => False
  | n + 1, S => c S (fun k S' => iteP k (b { E with nx := whN c b E n, ct := whN c b E n, bk := E.nx } S') (E.nx S')) E.ex
def sWh (c : FT) (b : FS) : FS := fun E S => ∃ n, whN c b E n S
theorem ds_while {c : Expr} {body : List Stmt} {fc : FT} {f : FS} {pos : Pos} (hp : PassesOwn (model X.prog X.w) X.A X.env X.xe) (hc : DT X W c fc) (hb : DSs X W mask body f) : DS X W mask (.While c body [] pos) (sWh fc f) := ⟨ps_le (ps_while hp hc.pt hb.ps) fun D σ H h => by
  obtain ⟨G, S, E, l, rs, hF, nx, rt, bk, ct, ex⟩ := h
  obtain ⟨n, hF⟩ := hF
  refine ⟨fun m σ' H' => ∃ S', Ag mask σ σ' ∧ σ'.length = S'.length ∧ RS X.K H' (G ++ σ'.zip S') ∧ whN fc f E m S', ⟨n, S, Ag.refl σ, l, rs, hF⟩, fun m σ1 H1 hW => ?_⟩
  obtain ⟨S1, ag1, l1, rs1, h1⟩ := hW
  cases m with
  | zero => exact h1.elim
  | succ m =>
    refine ⟨G, S1, _, E.ex, l1, rs1, h1, fun k S2 H2 l2 h2 rs2 => ?_, fun c fs S' d H' l' hx xo => ex c fs S' d σ1 H' ag1 l' hx xo⟩
    cases k with
    | true =>
      rw [iteP_t] at h2; rw [if_pos rfl]
      refine ⟨fun σ' H' => ∃ S', Ag mask σ σ' ∧ σ'.length = S'.length ∧ RS X.K H' (G ++ σ'.zip S') ∧ whN fc f E m S', fun σ' H' hN => ⟨m, Nat.lt_succ_self m, hN⟩, ?_⟩
      exact ⟨G, S2, _, l2, rs2, h2, fun S' σ' H' ag l' hn rs' => ⟨S', ag1.trans ag, l', rs', hn⟩, fun m S' v σ' H' ag l' => rt m S' v σ' H' (ag1.trans ag) l', fun S' σ' H' ag l' => nx S' σ' H' (ag1.trans ag) l', fun S' σ' H' ag l' hn rs' => ⟨S', ag1.trans ag, l', rs', hn⟩,
        fun c fs S' d σ' H' ag l' => ex c fs S' d σ' H' (ag1.trans ag) l'⟩
    | false =>
      rw [iteP_f] at h2; rw [if_neg (by decide)]
      exact nx S2 σ1 H2 ag1 l2 h2 rs2⟩
/-- by a word and a measure -/
theorem wh_by {c : FT} {b : FS} {E : EM} (P : List M → Prop) (μ : List M → Nat) (h : ∀ S, P S → ∀ n, (∀ S', P S' → μ S' < μ S → whN c b E n S') → whN c b E (n + 1) S) : ∀ (n : Nat) (S : List M), P S → μ S < n → whN c b E n S := by
  intro n
  induction n with
  | zero => intro S _ hn; exact absurd hn (Nat.not_lt_zero _)
  | succ n ih => intro S hP hn; exact h S hP n fun S' hP' hl => ih S' hP' (by omega)

/-! ### for -/
abbrev FI := List M → (List D → List M → Prop) → XM → Prop
/-- the iterator gives the items in their order while P stands -/
def Serve (K : PySem.W.Frag) (J : It) (P : List Pr) (items : List D) : Prop := ∀ (i : Nat) (H : Hp) (L : List Pr), RS K H (P ++ L) →
  (∀ d, items[i]? = some d → J.go i H ∧ ∀ x H', J.yld i H x H' → RS K H' ((some x, .v d) :: (P ++ L))) ∧ (items.length ≤ i → J.stop i H)
def tDI (K : PySem.W.Frag) (W : WX) (F : FI) : TI := fun σ H Q => ∃ (G : List Pr) (S : List M) (R : List D → List M → Prop) (XR : XM), σ.length = S.length ∧ RS K H (G ++ σ.zip S) ∧ F S R XR ∧
  (∀ items S' J P H', σ.length = S'.length → R items S' → Serve K J P items → RS K H' (P ++ (G ++ σ.zip S')) → Q J H') ∧
  (∀ c fs S' d H', σ.length = S'.length → XR (c, fs) S' → XOk K H' d fs (G ++ σ.zip S') → W c d σ H')
structure DI (X : Cx) (W : WX) (tg e : Expr) (F : FI) : Prop where
  pi : PI X tg e (tDI X.K W F)
theorem pi_le {tg e : Expr} {t t' : TI} (h : PI X tg e t) (k : ∀ σ H Q, t' σ H Q → t σ H Q) : PI X tg e t' := ⟨fun pins s σ H Q I q => h.run pins s σ H Q I (k σ H Q q)⟩
def forL (g : FG) (b : FS) (E : EM) : List D → List M → Prop
  | [], S => E.nx S
  | d :: ds, S => g (.v d) S (fun S1 => b { E with nx := forL g b E ds, ct := forL g b E ds, bk := E.nx } S1) E.ex
structure ForL (g : FG) (b : FS) (E : EM) (ds : List D) (S : List M) : Prop where
  go : forL g b E ds S
def sFor (fi : FI) (g : FG) (b : FS) : FS := fun E S => fi S (fun items S' => ForL g b E items S') E.ex
theorem ds_for {tg iter : Expr} {body : List Stmt} {fi : FI} {g : FG} {f : FS} {pos : Pos} (hp : PassesOwn (model X.prog X.w) X.A X.env X.xe) (hc : X.calm = true) (hi : DI X W tg iter fi) (hg : DG X W mask tg g) (hb : DSs X W mask body f)
    (hs : ∀ x, foldedSetIterable iter X.env x = pure x := by intro _; rfl) : DS X W mask (.For tg iter body [] pos) (sFor fi g f) := ⟨ps_le (ps_for hp hc hi.pi hg.pg hb.ps hs) fun D σ H h => by
  obtain ⟨G, S, E, l, rs, hF, nx, rt, bk, ct, ex⟩ := h
  refine ⟨G, S, _, E.ex, l, rs, hF, fun items S0 J P H0 l0 h0 sv rs0 => ?_, fun c fs S' d H' l' hx xo => ex c fs S' d σ H' (Ag.refl σ) l' hx xo⟩
  refine ⟨fun i m σ' H' => ∃ S', Ag mask σ σ' ∧ σ'.length = S'.length ∧ RS X.K H' (P ++ (G ++ σ'.zip S')) ∧ i + m = items.length ∧ forL g f E (items.drop i) S', ⟨items.length, S0, Ag.refl σ, l0, rs0, Nat.zero_add _, h0.go⟩, fun i m σ1 H1 hW => ?_⟩
  obtain ⟨S1, ag1, l1, rs1, em, h1⟩ := hW
  obtain ⟨s1, s2⟩ := sv i H1 _ rs1
  cases e : items[i]? with
  | none =>
    have hl : items.length ≤ i := List.getElem?_eq_none_iff.mp e
    rw [List.drop_eq_nil_of_le hl] at h1
    exact .inl ⟨s2 hl, nx S1 σ1 H1 ag1 l1 h1 (RS.dropL rs1)⟩
  | some d =>
    have hl : i < items.length := (List.getElem?_eq_some_iff.mp e).1
    rw [List.drop_eq_getElem_cons hl, (List.getElem?_eq_some_iff.mp e).2] at h1
    obtain ⟨g1, g2⟩ := s1 d e
    refine .inr ⟨g1, fun σ' H' => ∃ S', Ag mask σ σ' ∧ σ'.length = S'.length ∧ RS X.K H' (P ++ (G ++ σ'.zip S')) ∧ forL g f E (items.drop (i + 1)) S', fun σ' H' ⟨S', a, b, c, e⟩ => ⟨m - 1, by omega, S', a, b, c, by omega, e⟩, fun x H2 hy => ?_⟩
    have rs2 : RS X.K H2 ((some x, .v d) :: ((P ++ G) ++ σ1.zip S1)) := by rw [List.append_assoc]; exact g2 x H2 hy
    have dropP : ∀ {L1 : List Pr} {σ' : L2.St} {S' : List M} {H' : Hp}, RS X.K H' (L1 ++ ((P ++ G) ++ σ'.zip S')) → RS X.K H' (L1 ++ (G ++ σ'.zip S')) := fun {L1 σ' S' H'} r => by
      rw [List.append_assoc] at r
      exact RS.dropL (RS.rot r)
    refine ⟨P ++ G, S1, .v d, _, E.ex, l1, rs2, h1, fun S2 σ2 H3 ag2 l2 h2 rs3 => ?_, fun c fs S' d σ' H' ag l' hx xo => ex c fs S' d σ' H' (ag1.trans ag) l' hx (xo.imp fun L1 r => dropP r)⟩
    have ag12 := ag1.trans ag2
    refine ⟨P ++ G, S2, _, l2, rs3, h2, fun S' σ' H' ag l' hn rs' => ⟨S', ag12.trans ag, l', by rw [← List.append_assoc]; exact rs', hn⟩, fun m S' v σ' H' ag l' hr rs' => rt m S' v σ' H' (ag12.trans ag) l' hr (dropP (L1 := [(some v, m)]) rs'), fun S' σ' H' ag l' hn rs' => nx S' σ' H' (ag12.trans ag) l' hn (dropP (L1 := []) rs'),
      fun S' σ' H' ag l' hn rs' => ⟨S', ag12.trans ag, l', by rw [← List.append_assoc]; exact rs', hn⟩, fun c fs S' d σ' H' ag l' hx xo => ex c fs S' d σ' H' (ag12.trans ag) l' hx (xo.imp fun L1 r => dropP r)⟩⟩
end
end DM

/-! What is walked; methods of lists; calls of defs; defs; comprehensions. -/
namespace DM
open PySem PySem.Spec PyProof.Rows
open L2
variable [Tabs]
section
variable {X : Cx} {W : WX} {mask : List Bool}

/-! ### what is walked -/
def itM : M → Option (List D)
  | .v (.lst ds) => some ds
  | .ml ds => some ds
  | .v (.tup ds) => some ds
  | .v (.str x) => some (x.cps.toList.map fun c => .str ⟨#[c]⟩)
  | _ => none
def iVal (F : FE) : FI := fun S R XR => F S (fun m S' => ∃ ds, itM m = some ds ∧ R ds S') XR
theorem pi_any {tg l : Expr} {tl : TE} (hl : PE X l tl) : PI X tg l (fun σ H R => tl σ H fun x H1 => (∃ a, x = .ref a ∧ (∃ xs, SqL X.K H1 a xs) ∧ R (Itl X.K a) H1) ∨ (∃ a, x = .ref a ∧ (∃ xs, SqT X.K H1 a xs) ∧ R (Itt X.K a) H1) ∨ ∃ y, x = .str y ∧ R (Its y) H1) := by
  refine ⟨fun pins s σ H R I h => ?_⟩
  refine thn (hl.run pins s σ H _ I h) fun v s1 ⟨x, H1, I1, r1, q1⟩ => ?_
  rcases q1 with ⟨a, e, ⟨xs, hq⟩, q⟩ | ⟨a, e, ⟨xs, hq⟩, q⟩ | ⟨x, ex, q⟩
  · subst e
    cases r1
    obtain ⟨its, rv, p, hz⟩ := I1.list hq
    refine wpAny_pyIter_list p.isList ?_
    refine ⟨s1.heap.objs.size, [s1.heap.objs.size], _, _, H1, rfl, I1.kept (t' := s1.toks) fun b o e => Heap.get?_push_of_some _ e, turn_list a _, ⟨_, Heap.get?_push_size _ rfl, rfl, rfl⟩, fun b hb => ?_, q⟩
    have e : b = s1.heap.objs.size := by simpa using hb
    subst e
    exact I1.fpOk (Nat.le_refl _) (I1.hok.fresh (Nat.le_refl _))
  · subst e
    cases r1
    obtain ⟨its, rv, p, hz⟩ := I1.tuple hq
    refine wpAny_pyIter_tuple (show s1.heap.IsTuple a its.toArray from p) ?_
    refine ⟨s1.heap.objs.size, [s1.heap.objs.size], _, _, H1, rfl, I1.kept (t' := s1.toks) fun b o e => Heap.get?_push_of_some _ e, turn_tuple a _, ⟨_, Heap.get?_push_size _ rfl, rfl, rfl⟩, fun b hb => ?_, q⟩
    have e : b = s1.heap.objs.size := by simpa using hb
    subst e
    exact I1.fpOk (Nat.le_refl _) (I1.hok.fresh (Nat.le_refl _))
  · subst ex
    obtain ⟨t, rfl⟩ := r1
    cases ha : x.cps.all (· < 128)
    · exact wpAny_pyIter_wide ha (pi_one (tk := s1.toks) I1 _ (turn_str _ x t "str_iterator" (.inr rfl)) ⟨_, Heap.get?_push_size _ rfl, rfl, rfl⟩ q)
    · exact wpAny_pyIter_ascii ha (pi_one (tk := s1.toks) I1 _ (turn_str _ x t "str_ascii_iterator" (.inl rfl)) ⟨_, Heap.get?_push_size _ rfl, rfl, rfl⟩ q)
theorem RL.sub1 {K : PySem.W.Frag} {H : Hp} {O : List Addr} {x : Option V} {d : D} {L : List Pr} (n : O.Nodup) (h : ∃ v, x = some v ∧ RD K H O v d) (r : RL K H O L O) : RS K H ((x, .v d) :: L) := by
  obtain ⟨v, rfl, h⟩ := h
  exact ⟨O, n, .cons (fp := []) (.v h) r⟩
theorem sq_uniqL {K : PySem.W.Frag} {H : Hp} {a : Addr} {xs : List V} (h : SqL K H a xs) : SqL K H a xs := h
theorem serve_list {K : PySem.W.Frag} {a : Addr} {m : M} {ds : List D} (e : lsV m = some ds) : Serve K (Itl K a) [(some (.ref a), m)] ds := by
  intro i H L rs
  obtain ⟨O, f1, n, h1, r⟩ := RS.one rs
  obtain ⟨b, vs, e1, s1, r1⟩ := h1.ls e
  cases e1
  refine ⟨fun d hd => ?_, fun hi => ⟨vs, s1, by rw [r1.length]; exact hi⟩⟩
  obtain ⟨v, hv, rv⟩ := r1.get hd
  refine ⟨⟨vs, v, s1, hv⟩, fun x H' hy => ?_⟩
  obtain ⟨rfl, f⟩ := hy
  have ex := f vs s1
  rw [hv] at ex
  cases ex
  exact RL.sub1 n ⟨_, rfl, rv⟩ r
theorem serve_tup {K : PySem.W.Frag} {a : Addr} {m : M} {ds : List D} (e : tpV m = some ds) : Serve K (Itt K a) [(some (.ref a), m)] ds := by
  intro i H L rs
  obtain ⟨O, f1, n, h1, r⟩ := RS.one rs
  obtain ⟨b, vs, e1, s1, r1⟩ := h1.tp e
  cases e1
  refine ⟨fun d hd => ?_, fun hi => ⟨vs, s1, by rw [r1.length]; exact hi⟩⟩
  obtain ⟨v, hv, rv⟩ := r1.get hd
  refine ⟨⟨vs, v, s1, hv⟩, fun x H' hy => ?_⟩
  obtain ⟨rfl, f⟩ := hy
  have ex := f vs s1
  rw [hv] at ex
  cases ex
  exact RL.sub1 n ⟨_, rfl, rv⟩ r
theorem serve_str {K : PySem.W.Frag} (x : Str) : Serve K (Its x) [] (x.cps.toList.map fun c => .str ⟨#[c]⟩) := by
  intro i H L rs
  refine ⟨fun d hd => ?_, fun hi => by simpa [Its] using hi⟩
  rw [List.getElem?_map, Array.getElem?_toList] at hd
  cases q : x.cps[i]? with
  | none => rw [q] at hd; cases hd
  | some c =>
    rw [q] at hd
    cases hd
    have hl : i < x.cps.size := (Array.getElem?_eq_some_iff.mp q).1
    refine ⟨hl, fun v H' hy => ?_⟩
    obtain ⟨rfl, c', hc, rfl⟩ := hy
    rw [q] at hc
    cases hc
    exact rs.str _
theorem di_val {tg e : Expr} {F : FE} (h : DE X W e F) : DI X W tg e (iVal F) := ⟨pi_le (pi_any h.pe) fun σ H Q h => by
  obtain ⟨G, S, R, XR, l, rs, hF, hQ, hX⟩ := h
  refine ⟨G, S, _, XR, l, rs, hF, fun m S1 v H1 l1 h1 rs1 => ?_, hX⟩
  obtain ⟨ds, e, hr⟩ := h1
  obtain ⟨O, f1, n, hm, r⟩ := RS.one rs1
  have hls : lsV m = some ds → ∃ a, v = .ref a ∧ (∃ xs, SqL X.K H1 a xs) ∧ Q (Itl X.K a) H1 := fun e => by
    obtain ⟨a, vs, e1, s1, r1⟩ := hm.ls e
    cases e1
    exact ⟨a, rfl, ⟨vs, s1⟩, hQ ds S1 _ [(some (.ref a), m)] H1 l1 hr (serve_list e) rs1⟩
  have htp : tpV m = some ds → ∃ a, v = .ref a ∧ (∃ xs, SqT X.K H1 a xs) ∧ Q (Itt X.K a) H1 := fun e => by
    obtain ⟨a, vs, e1, s1, r1⟩ := hm.tp e
    cases e1
    exact ⟨a, rfl, ⟨vs, s1⟩, hQ ds S1 _ [(some (.ref a), m)] H1 l1 hr (serve_tup e) rs1⟩
  unfold itM at e
  split at e
  · exact .inl (hls e)
  · exact .inl (hls e)
  · exact .inr (.inl (htp e))
  · rename_i x
    cases e
    have e1 := hm.str
    cases e1
    exact .inr (.inr ⟨x, rfl, hQ _ S1 _ [] H1 l1 hr (serve_str x) rs1.drop⟩)
  · cases e⟩
@[irreducible] def rngD (lo : Int) (n : Nat) (c : Int) : List D := (List.range n).map fun k => .int (lo + (k : Nat) * c)
theorem rngD_get {lo : Int} {n : Nat} {c : Int} {i : Nat} {d : D} (h : (rngD lo n c)[i]? = some d) : i < n ∧ d = .int (lo + (i : Nat) * c) := by
  unfold rngD at h
  rw [List.getElem?_map] at h
  by_cases hi : i < n
  · rw [List.getElem?_range hi] at h
    exact ⟨hi, (Option.some.inj h).symm⟩
  · rw [List.getElem?_eq_none_iff.mpr (by simpa using hi)] at h
    cases h
theorem serve_rng {K : PySem.W.Frag} (lo : Int) (n : Nat) : Serve K (Itr lo n) [] (rngD lo n 1) := by
  intro i H L rs
  refine ⟨fun d hd => ?_, fun hi => by simpa [Itr, rngD] using hi⟩
  obtain ⟨hi, rfl⟩ := rngD_get hd
  refine ⟨hi, fun v H' hy => ?_⟩
  obtain ⟨rfl, rfl⟩ := hy
  rw [Int.mul_one]
  exact rs.int _
theorem serve_rngC {K : PySem.W.Frag} (lo : Int) (n : Nat) (c : Int) : Serve K (Itc lo c n) [] (rngD lo n c) := by
  intro i H L rs
  refine ⟨fun d hd => ?_, fun hi => by simpa [Itc, rngD] using hi⟩
  obtain ⟨hi, rfl⟩ := rngD_get hd
  refine ⟨hi, fun v H' hy => ?_⟩
  obtain ⟨rfl, rfl⟩ := hy
  exact rs.int _
def R62 (i : Int) : Prop := -(2 ^ 62) ≤ i ∧ i < 2 ^ 62
def iR1 (F : FA) : FI := fun S R XR => F S (fun ms S' => match ms with
  | [.v (.int j)] => R62 j ∧ R (rngD 0 j.toNat 1) S'
  | _ => False) XR
def iR2 (F : FA) : FI := fun S R XR => F S (fun ms S' => match ms with
  | [.v (.int i), .v (.int j)] => R62 i ∧ R62 j ∧ R (rngD i (j - i).toNat 1) S'
  | _ => False) XR
/-- downward by ones -/
def iR3 (F : FA) : FI := fun S R XR => F S (fun ms S' => match ms with
  | [.v (.int i), .v (.int j), .v (.int c)] => R62 i ∧ R62 j ∧ c = -1 ∧ R (rngD i (i - j).toNat (-1)) S'
  | _ => False) XR
theorem di_r1 {tg a : Expr} {F : FA} {p pos : Pos} (hg : Gl X "range") (hm : X.mg "range" = none) (ha : DA X W [a] F) (hs : starEach [a] X.env = [(false, eval a X.env)] := by rfl) : DI X W tg (.Call (.Name "range" p) [a] [] pos) (iR1 F) := ⟨pi_le (pi_range1 hg hm ha.pa hs) fun σ H Q h => by
  obtain ⟨G, S, R, XR, l, rs, hF, hQ, hX⟩ := h
  refine ⟨G, S, _, XR, l, rs, hF, fun ms S1 vs H1 l1 lv h1 rs1 => ?_, hX⟩
  split at h1
  · obtain ⟨v, rfl⟩ := one_of lv
    obtain ⟨O, f1, n, hm, r⟩ := RS.one rs1
    have e := hm.int
    cases e
    exact ⟨_, rfl, h1.1.1, h1.1.2, hQ _ S1 _ [] H1 l1 h1.2 (serve_rng _ _) rs1.drop⟩
  · exact h1.elim⟩
theorem di_r2 {tg a b : Expr} {F : FA} {p pos : Pos} (hg : Gl X "range") (hm : X.mg "range" = none) (ha : DA X W [a, b] F) (hs : starEach [a, b] X.env = [(false, eval a X.env), (false, eval b X.env)] := by rfl) (hs2 : starEach [b] X.env = [(false, eval b X.env)] := by rfl) : DI X W tg (.Call (.Name "range" p) [a, b] [] pos) (iR2 F) := ⟨pi_le (pi_range2 hg hm ha.pa hs hs2) fun σ H Q h => by
  obtain ⟨G, S, R, XR, l, rs, hF, hQ, hX⟩ := h
  refine ⟨G, S, _, XR, l, rs, hF, fun ms S1 vs H1 l1 lv h1 rs1 => ?_, hX⟩
  split at h1
  · obtain ⟨v, w, rfl⟩ := two_of lv
    obtain ⟨O, f1, f2, n, hm, hm2, r⟩ := RS.two rs1
    have e := hm.int
    have e2 := hm2.int
    cases e
    cases e2
    exact ⟨_, _, rfl, ⟨h1.1.1, h1.1.2, h1.2.1.1, h1.2.1.2⟩, hQ _ S1 _ [] H1 l1 h1.2.2 (serve_rng _ _) rs1.drop.drop⟩
  · exact h1.elim⟩
theorem three_of {α : Type} {xs : List α} (h : xs.length = 3) : ∃ a b c, xs = [a, b, c] := match xs, h with | [a, b, c], _ => ⟨a, b, c, rfl⟩
theorem di_r3 {tg a b c : Expr} {F : FA} {p pos : Pos} (hg : Gl X "range") (hm : X.mg "range" = none) (ha : DA X W [a, b, c] F)
    (hs : starEach [a, b, c] X.env = (false, eval a X.env) :: starEach [b, c] X.env := by rfl) (hpl : (backTo pos (starEach [b, c] X.env)).any (·.1) = false := by rfl) : DI X W tg (.Call (.Name "range" p) [a, b, c] [] pos) (iR3 F) := ⟨pi_le (pi_range3 hg hm ha.pa hs hpl) fun σ H Q h => by
  obtain ⟨G, S, R, XR, l, rs, hF, hQ, hX⟩ := h
  refine ⟨G, S, _, XR, l, rs, hF, fun ms S1 vs H1 l1 lv h1 rs1 => ?_, hX⟩
  split at h1
  · obtain ⟨v, w, z, rfl⟩ := three_of lv
    obtain ⟨O, f1, f2, n, hm, hm2, r⟩ := RS.two rs1
    have e := hm.int
    have e2 := hm2.int
    cases e
    cases e2
    obtain ⟨O', f3, n', hm3, r'⟩ := RS.one rs1.drop.drop
    have e3 := hm3.int
    cases e3
    obtain ⟨a1, a2, a3, a4⟩ := h1
    subst a3
    exact ⟨_, _, _, _, rfl, RgC.neg a1.1 a1.2 a2.1 a2.2, hQ _ S1 _ [] H1 l1 a4 (serve_rngC _ _ _) rs1.drop.drop.drop⟩
  · exact h1.elim⟩

/-! ### methods of lists -/
def arD (a : Ar) (S : List M) : M := match a with
  | .m m => m
  | .n i => S[i]?.getD .gone
  | .f _ _ _ m => m
def isL (m : M) : Prop := (lsV m).isSome = true
def fML (b : BM) (fo : FO) (fs : FOs) : FE := fun S R XR => fo S (fun a S1 => chk (lsV (arD a S1)).isSome (fs S1 (fun as S2 => callB b (a :: as) S2 R) XR)) XR
def fML0 (b : BM) (fo : FO) : FE := fun S R XR => fo S (fun a S1 => chk (lsV (arD a S1)).isSome (callB b [a] S1 R)) XR
theorem RS.tyL {K : PySem.W.Frag} {H : Hp} {σ : L2.St} {S : List M} {a : Ar} {v : V} {G : List Pr} (l : σ.length = S.length) (ok : ArOk σ a v) (rs : RS K H ((some v, arM a) :: (G ++ σ.zip S))) (h : isL (arD a S)) : tyV K "list" v H := by
  have go : ∀ {L : List Pr} {m : M}, RS K H ((some v, m) :: L) → isL m → tyV K "list" v H := fun {L m} rs h => by
    obtain ⟨O, f1, n, hm, r⟩ := RS.one rs
    unfold isL at h
    cases e : lsV m with
    | none => rw [e] at h; cases h
    | some ds =>
      obtain ⟨a, vs, e1, s1, r1⟩ := hm.ls e
      cases e1
      exact .inl ⟨rfl, _, s1⟩
  cases a with
  | m m => exact go rs h
  | f _ _ _ m => exact go rs h
  | n i =>
    unfold arD at h
    simp only at h
    cases e : S[i]? with
    | none => rw [e] at h; cases h
    | some m =>
      rw [e] at h
      obtain ⟨x, e1, r1⟩ := RS.take rs.drop l e
      have e2 : σ[i]? = some (some v) := ok
      rw [e2] at e1
      cases e1
      exact go r1 h
theorem de_mL {id : String} {name : Str} {b : BM} {o e : Expr} {es : List Expr} {fo : FO} {fs : FOs} {apos cpos : Pos} (slot : Slot "list" name id) (hty : typeOf (.builtin id) = pure (.type "method_descriptor")) (hm : MtR X id (fun x vs H Q => rB X.K b (x :: vs) H Q)) (ho : DO X W o fo) (ha : DOs X W (e :: es) fs)
    (hbase : attributeBase o name X.env (eval o X.env) = eval o X.env := by rfl)
    (hfew : ((backTo cpos (starEach (e :: es) X.env)).all (fun x => !x.1) && (backToKw cpos (keywordEach [] X.env)).all (fun x => x.1.isSome)
      && decide ((e :: es).length + ([] : List Keyword).length + (if ([] : List Keyword).isEmpty then 0 else 1) < 30)) = true := by rfl)
    (hline : (apos.endLine == cpos.line) = true := by rfl) (hs : starEach (e :: es) X.env = (false, eval e X.env) :: starEach es X.env := by rfl) (hplain : (backTo cpos (starEach es X.env)).any (·.1) = false := by rfl) : DE X W (.Call (.Attribute o name apos) (e :: es) [] cpos) (fML b fo fs) :=
  ⟨pe_le (pe_bm PySem.F.plainAttrs_list slot hty hm ho.pe ha.pa hbase hfew hline hs hplain) fun σ H Q h => by
    obtain ⟨G, S, R, XR, l, rs, hF, hQ, hX⟩ := h
    refine ⟨G, S, _, XR, l, rs, hF, fun a S1 v H1 l1 h1 ok1 rs1 => ⟨RS.tyL l1 ok1 rs1 h1.ok.1, ?_⟩, hX⟩
    refine ⟨(some v, arM a) :: G, S1, _, XR, l1, rs1, h1.ok.2, fun as S2 vs H2 l2 h2 ok2 rs2 => ?_, fun c fs S' d H' l' hx xo => hX c fs S' d H' l' hx xo.drop⟩
    exact rB_of (as := a :: as) (vs := v :: vs) l2 ⟨ok1, ok2⟩ (RS.perm (perm_mid _ _ _) rs2) h2 hQ⟩
theorem de_mL0 {id : String} {name : Str} {b : BM} {o : Expr} {fo : FO} {apos cpos : Pos} (slot : Slot "list" name id) (hty : typeOf (.builtin id) = pure (.type "method_descriptor")) (hm : MtR X id (fun x vs H Q => rB X.K b (x :: vs) H Q)) (ho : DO X W o fo)
    (hbase : attributeBase o name X.env (eval o X.env) = eval o X.env := by rfl) (hline : (apos.endLine == cpos.line) = true := by rfl) : DE X W (.Call (.Attribute o name apos) [] [] cpos) (fML0 b fo) :=
  ⟨pe_le (pe_bm0 PySem.F.plainAttrs_list slot hty hm ho.pe hbase hline) fun σ H Q h => by
    obtain ⟨G, S, R, XR, l, rs, hF, hQ, hX⟩ := h
    exact ⟨G, S, _, XR, l, rs, hF, fun a S1 v H1 l1 h1 ok1 rs1 => ⟨RS.tyL l1 ok1 rs1 h1.ok.1, rB_of (as := [a]) (vs := [v]) l1 ⟨ok1, trivial⟩ rs1 h1.ok.2 hQ⟩, hX⟩⟩
theorem mtR_of {id : String} {r : V → List V → Hp → VK → Prop} {b : BM} (hm : MtR X id r) (h : ∀ (x : V) (vs : List V) (H : Hp) (Q : VK), rB X.K b (x :: vs) H Q → r x vs H Q) : MtR X id (fun x vs H Q => rB X.K b (x :: vs) H Q) :=
  fun pins s σ H x xs v us Q I rx rv q => hm pins s σ H x xs v us Q I rx rv (h _ _ _ _ q)
def appendB : BM := fun ms R => match ms with
  | [.ml ds, e] => asD e fun d => ds.length < sizeLine ∧ R (.v .non) [.ml (ds ++ [d]), .v d]
  | _ => False
theorem RS.ml2 {K : PySem.W.Frag} {H : Hp} {x : Option V} {ds : List D} {L : List Pr} (rs : RS K H ((x, .ml ds) :: L)) : ∃ a vs, x = some (.ref a) ∧ H a = some (.lst vs) ∧ vs.length = ds.length ∧
    ∃ O, O.Nodup ∧ RDs K H O vs ds ∧ RL K H O ((x, .ml ds) :: L) O ∧ (∀ o, Stp H (upd H a o) O O) ∧ (∀ vs' ds', RDs K H O vs' ds' → RL K (upd H a (.lst vs')) O ((x, .ml ds') :: L) O) := by
  obtain ⟨O, n, r⟩ := rs
  have r' := r
  generalize hO : O = O' at r
  cases r with
  | cons h r =>
    rename_i fp f2
    have hO' : O = fp ++ f2 := hO
    cases h with
    | ml e r2 =>
      rename_i a vs
      have ha : a ∈ O := by rw [hO']; simp
      refine ⟨a, vs, rfl, e, r2.length, O, n, by rw [hO']; exact r2, r', fun o => stp_put ha fun b z => z, fun vs' ds' hv => ?_⟩
      rw [hO'] at hv n
      have d := List.nodup_append.mp n
      have q : RL K (upd H a (.lst vs')) ([a] ++ f2) ((some (.ref a), .ml ds') :: L) ([a] ++ f2) := .cons (fp := [a]) (.ml upd_same (hv.step (stp_put (by simp) fun b z => z))) (r.step (stp_put (by simp) fun b z => z) fun b hb o ho => by
        rw [upd_ne fun z => d.2.2 a (by simp) b hb z.symm]
        exact ho)
      rw [hO']
      exact q
theorem RL.hd {K : PySem.W.Frag} {H : Hp} {O : List Addr} {x : Option V} {d : D} {L : List Pr} {fp : List Addr} (r : RL K H O ((x, .v d) :: L) fp) : ∃ v, x = some v ∧ RD K H O v d := by
  cases r with
  | cons h r => cases h with | v h => exact ⟨_, rfl, h⟩
theorem RL.tl {K : PySem.W.Frag} {H : Hp} {O : List Addr} {p : Pr} {L : List Pr} {fp : List Addr} (r : RL K H O (p :: L) fp) : ∃ fp', RL K H O L fp' := by
  cases r with
  | cons h r => exact ⟨_, r⟩
theorem RDs.mem {K : PySem.W.Frag} {H : Hp} {O : List Addr} {vs : List V} {ds : List D} {i : Nat} {d : D} (r : RDs K H O vs ds) (e : ds[i]? = some d) : ∃ v, vs[i]? = some v ∧ RD K H O v d := r.get e
theorem m_append : MtR X "list.append" (fun x vs H Q => rB X.K appendB (x :: vs) H Q) := mtR_of mt_append fun x vs H Q h => by
  obtain ⟨L, ms, R, l, rs, hb, hQ⟩ := h
  unfold appendB at hb
  split at hb
  · rename_i ds e
    obtain ⟨y, rfl⟩ := one_of (Nat.succ.inj l)
    obtain ⟨d, ⟨z, hr⟩, rs1⟩ := RS.asD (RS.swap rs) hb
    obtain ⟨a, ws, e1, hH, hl, O, n, r1, r2, st, put⟩ := RS.ml2 rs1.swap
    cases e1
    obtain ⟨_, q⟩ := r2.tl
    obtain ⟨v, e2, h2⟩ := q.hd
    cases e2
    exact ⟨a, ws, y, rfl, rfl, hH, by rw [hl]; exact z, hQ _ _ _ _ hr (RS.val ⟨O, n, put _ _ (r1.append (.cons h2 .nil))⟩ fun _ => .non)⟩
  · exact hb.elim
def popB : BM := fun ms R => match ms with
  | [.ml ds] => ∃ d, ds[ds.length - 1]? = some d ∧ R (.v d) [.ml ds.dropLast]
  | _ => False
theorem m_pop : MtR X "list.pop" (fun x vs H Q => rB X.K popB (x :: vs) H Q) := mtR_of mt_pop fun x vs H Q h => by
  obtain ⟨L, ms, R, l, rs, hb, hQ⟩ := h
  unfold popB at hb
  split at hb
  · rename_i ds
    obtain ⟨d, e, hr⟩ := hb
    have e0 : vs = [] := by cases vs with | nil => rfl | cons _ _ => cases l
    subst e0
    obtain ⟨a, ws, e1, hH, hl, O, n, r1, r2, st, put⟩ := RS.ml2 rs
    cases e1
    obtain ⟨v, hv, rv⟩ := r1.get e
    exact ⟨a, ws, v, rfl, rfl, hH, by rw [hl]; exact hv, hQ _ _ _ _ hr (RL.sub1 n ⟨v, rfl, rv.step (st _)⟩ (put _ _ r1.dropLast))⟩
  · exact hb.elim
/-- xs[i] = e -/
def setLB : BM := fun ms R => match ms with
  | [.ml ds, .v (.int k), e] => asD e fun d => ∃ j, ixN ds.length k = some j ∧ R (.v .non) [.ml (ds.set j d), .v (.int k), .v d]
  | _ => False
theorem s_setL : PSet X (setR X.K setLB) := by
  intro pins s σ H o i v ov iv u Q I ro ri rv h
  obtain ⟨L, ms, R, l, rs, hb, hQ⟩ := h
  unfold setLB at hb
  split at hb
  · rename_i ds k e
    have rs0 : RS X.K H ((some v, e) :: (some o, .ml ds) :: (some i, .v (.int k)) :: L) := RS.perm ((List.Perm.cons _ (.swap _ _ _)).trans (.swap _ _ _)) rs
    obtain ⟨d, ⟨j, ej, hr⟩, rs1⟩ := RS.asD rs0 hb
    obtain ⟨a, ws, e1, hH, hl, O, n, r1, r2, st, put⟩ := RS.ml2 rs1.swap
    cases e1
    obtain ⟨_, q1⟩ := r2.tl
    obtain ⟨_, q2⟩ := q1.tl
    obtain ⟨v', e2, h2⟩ := q1.hd
    obtain ⟨i', e3, h3⟩ := q2.hd
    cases e2
    cases e3
    cases h3
    refine set_list pins s σ H _ _ _ ov iv u Q I ro ri rv ⟨a, ws, k, j, rfl, rfl, hH, by rw [hl]; exact ej, hQ _ _ .non _ hr ?_⟩
    have q : RS X.K (upd H a (.lst (ws.set j v))) ((some (.ref a), .ml (ds.set j d)) :: (some v, .v d) :: (some (.int k), .v (.int k)) :: L) := ⟨O, n, put _ _ (r1.set j h2)⟩
    have q2 : RS X.K (upd H a (.lst (ws.set j v))) ((some (.ref a), .ml (ds.set j d)) :: (some (.int k), .v (.int k)) :: (some v, .v d) :: L) := RS.perm (List.Perm.cons _ (.swap _ _ _)) q
    exact q2.val fun _ => .non
  · exact hb.elim

/-! ### in place -/
def iaddB : BM := fun ms R => match ms with
  | [.v (.int i), .v (.int j)] => R (.v (.int (i + j))) ms
  | [.v (.str x), .v (.str y)] => x.length + y.length ≤ sizeLine ∧ R (.v (.str (x ++ y))) ms
  | _ => False
theorem ip_add' : PIp X .Add (r2I X.K iaddB) := by
  intro pins s σ H x y v u Q I rx ry h
  obtain ⟨L, ms, R, l, rs, hb, hQ⟩ := h
  unfold iaddB at hb
  split at hb
  · obtain ⟨O, f1, f2, n, h1, h2, r⟩ := RS.two rs
    have e1 := h1.int
    have e2 := h2.int
    cases e1
    cases e2
    exact ip_add pins s σ H _ _ v u Q I rx ry ⟨_, _, rfl, rfl, hQ _ _ _ H hb (rs.int _)⟩
  · obtain ⟨O, f1, f2, n, h1, h2, r⟩ := RS.two rs
    have e1 := h1.str
    have e2 := h2.str
    cases e1
    cases e2
    exact iop_add_str pins s σ H _ _ v u Q I rx ry ⟨_, _, rfl, rfl, hb.1, hQ _ _ _ H hb.2 (rs.str _)⟩
  · exact hb.elim
def isubB : BM := fun ms R => match ms with
  | [.v (.int i), .v (.int j)] => R (.v (.int (i - j))) ms
  | _ => False
theorem ip_sub' : PIp X .Sub (r2I X.K isubB) := by
  intro pins s σ H x y v u Q I rx ry h
  obtain ⟨L, ms, R, l, rs, hb, hQ⟩ := h
  unfold isubB at hb
  split at hb
  · obtain ⟨O, f1, f2, n, h1, h2, r⟩ := RS.two rs
    have e1 := h1.int
    have e2 := h2.int
    cases e1
    cases e2
    exact ip_sub pins s σ H _ _ v u Q I rx ry ⟨_, _, rfl, rfl, hQ _ _ _ H hb (rs.int _)⟩
  · exact hb.elim

/-! ### defs -/
/-- what a def does: its value and the arguments behind it, or what it raises -/
abbrev FM := List M → RMx → XM → Prop
def spOf (K : PySem.W.Frag) (n : Nat) (m : FM) : Sp := fun vs H Q E => vs.length = n ∧ ∃ (G : List Pr) (ms : List M) (R : RMx) (XR : XM), ms.length = n ∧ RS K H ((vs.map some).zip ms ++ G) ∧ m ms R XR ∧
  (∀ r ms' v H', R r ms' → RS K H' ((some v, r) :: ((vs.map some).zip ms' ++ G)) → Q v H') ∧
  (∀ c fs ms' d H', XR (c, fs) ms' → XOk K H' d fs ((vs.map some).zip ms' ++ G) → E c d H')
def callF (m : FM) (as : List Ar) (S : List M) (R : RMx) (XR : XM) : Prop := takeK as S fun ms S1 => m ms (fun r ms' => giveK as ms' S1 fun S2 => R r S2) (fun x ms' => giveK as ms' S1 fun S2 => XR x S2)
theorem callF_eq (m : FM) (as : List Ar) (S : List M) (R : RMx) (XR : XM) : callF m as S R XR = m (takeA as S).1 (fun r ms' => R r (giveA as ms' (takeA as S).2)) (fun x ms' => XR x (giveA as ms' (takeA as S).2)) := by
  unfold callF
  rw [takeK_eq]
  simp only [giveK_eq]
theorem spOf_of {K : PySem.W.Frag} {W : WX} {H : Hp} {σ : L2.St} {S : List M} {as : List Ar} {vs : List V} {G : List Pr} {m : FM} {R : RMx} {XR : XM} {Q : VK} (l : σ.length = S.length) (ok : ArsOk σ as vs) (rs : RS K H ((vs.map some).zip (as.map arM) ++ (G ++ σ.zip S))) (hb : callF m as S R XR)
    (hQ : ∀ m S' v H', σ.length = S'.length → R m S' → RS K H' ((some v, m) :: (G ++ σ.zip S')) → Q v H') (hX : ∀ c fs S' d H', σ.length = S'.length → XR (c, fs) S' → XOk K H' d fs (G ++ σ.zip S') → W c d σ H') : spOf K as.length m vs H Q (WE W σ) := by
  have h := RS.takeA l ok rs
  have tl := takeA_len as S
  rw [callF_eq] at hb
  refine ⟨ok.len, G ++ σ.zip (takeA as S).2, (takeA as S).1, _, _, tl.1, h, hb, fun r ms' v H' hr hs => ?_, fun c fs ms' d H' hx xo => ?_⟩
  · have hs2 : RS K H' ((vs.map some).zip ms' ++ (((some v, r) :: G) ++ σ.zip (takeA as S).2)) := RS.perm (perm_mid _ _ _).symm hs
    exact hQ r _ v H' (l.trans (tl.2.symm.trans (giveA_len _ _ _).symm)) hr (RS.giveA (l.trans tl.2.symm) ok hs2)
  · refine hX c fs _ d H' (l.trans (tl.2.symm.trans (giveA_len _ _ _).symm)) hx (xo.imp fun L1 r => ?_)
    have r2 : RS K H' ((vs.map some).zip ms' ++ ((L1 ++ G) ++ σ.zip (takeA as S).2)) := by rw [List.append_assoc]; exact RS.rot r
    rw [← List.append_assoc]
    exact RS.giveA (l.trans tl.2.symm) ok r2
def fCall (m : FM) (n : Nat) (fs : FOs) : FE := fun S R XR => fs S (fun as S1 => chk (Nat.beq as.length n) (callF m as S1 R XR)) XR
theorem de_call {k : Nat} {f : Addr} {fd : FuncData} {ps : List Str} {n : Nat} {m : FM} {x : Str} {p pos : Pos} {e : Expr} {es : List Expr} {fs : FOs} (F : FnOk X.prog X.w X.K X.mg X.base (L2.CX X.prog X.w) k f fd ps (spOf X.K n m)) (tk : Takes X W) (hr : Room k X.A) (hg : Gl X x) (hm : X.mg x = some (.ref f))
    (hk : PySem.W.keepIn X.K (.ref f) = true) (hb : Binds X.K fd ps []) (ha : DOs X W (e :: es) fs) (hdb : (x == ("__debug__" : Str)) = false := by decide) (he : starEach (e :: es) X.env = (false, eval e X.env) :: starEach es X.env := by rfl) (hpl : (backTo pos (starEach es X.env)).any (·.1) = false := by rfl) :
    DE X W (.Call (.Name x p) (e :: es) [] pos) (fCall m n fs) := ⟨pe_le (pe_callS F hr hg hm hk hb (fun σ => passAt tk σ) ha.pa hdb he hpl) fun σ H Q h => by
  obtain ⟨G, S, R, XR, l, rs, hF, hQ, hX⟩ := h
  refine ⟨G, S, _, XR, l, rs, hF, fun as S1 vs H1 l1 h1 ok1 rs1 => ?_, hX⟩
  have h1 := h1.ok
  have q := spOf_of (W := W) l1 ok1 rs1 h1.2 hQ hX
  rw [Nat.eq_of_beq_eq_true h1.1] at q
  exact q⟩

/-- the arguments behind the body: those that it leaves bound -/
def outs : List Bool → List M → List M
  | [], _ => []
  | _ :: bs, [] => .gone :: outs bs []
  | b :: bs, m :: S => (if b = true then m else .gone) :: outs bs S
theorem outs_len : ∀ (mask : List Bool) (S : List M), (outs mask S).length = mask.length
  | [], _ => rfl
  | _ :: bs, [] => congrArg (· + 1) (outs_len bs [])
  | b :: bs, m :: S => congrArg (· + 1) (outs_len bs S)
theorem RL.outs {K : PySem.W.Frag} {H : Hp} {O : List Addr} : ∀ {mask : List Bool} {vs : List V} {σ : L2.St} {S : List M} {fp : List Addr}, mask.length = vs.length → σ.length = S.length → (∀ i : Nat, mask[i]? = some true → ∃ v, vs[i]? = some v ∧ σ[i]? = some (some v)) → RL K H O (σ.zip S) fp →
    ∃ fp', fp'.Sublist fp ∧ RL K H O ((vs.map some).zip (DM.outs mask S)) fp'
  | [], [], _, _, fp, _, _, _, h => ⟨[], List.nil_sublist _, .nil h.tabs⟩
  | [], _ :: _, _, _, _, h, _, _, _ => nomatch h
  | _ :: _, [], _, _, _, h, _, _, _ => nomatch h
  | b :: bs, v :: vs, [], [], fp, h, l, hm, r => by
    obtain ⟨fp', s, q⟩ := RL.outs (mask := bs) (vs := vs) (σ := []) (S := []) (fp := fp) (Nat.succ.inj h) rfl (fun i hi => by
      obtain ⟨v', _, e⟩ := hm (i + 1) (by simpa using hi)
      simp at e) r
    exact ⟨fp', s, .cons (fp := []) (.gone _) q⟩
  | b :: bs, v :: vs, [], _ :: _, fp, h, l, hm, r => nomatch l
  | b :: bs, v :: vs, _ :: _, [], fp, h, l, hm, r => nomatch l
  | b :: bs, v :: vs, x :: σ, m :: S, fp, h, l, hm, r => by
    cases r with
    | cons h1 r1 =>
      rename_i f1 f2
      obtain ⟨fp', s, q⟩ := RL.outs (mask := bs) (vs := vs) (σ := σ) (S := S) (Nat.succ.inj h) (Nat.succ.inj l) (fun i hi => by
        obtain ⟨v', e1, e2⟩ := hm (i + 1) (by simpa using hi)
        exact ⟨v', by simpa using e1, by simpa using e2⟩) r1
      cases b with
      | true =>
        obtain ⟨v', e1, e2⟩ := hm 0 rfl
        cases e1
        cases e2
        exact ⟨f1 ++ fp', s.append_left f1, .cons h1 q⟩
      | false => exact ⟨fp', s.trans (List.sublist_append_right f1 f2), .cons (fp := []) (.gone _) q⟩
theorem RS.outs {K : PySem.W.Frag} {H : Hp} {mask : List Bool} {vs : List V} {σ : L2.St} {S : List M} {G : List Pr} (h : mask.length = vs.length) (l : σ.length = S.length) (hm : ∀ i : Nat, mask[i]? = some true → ∃ v, vs[i]? = some v ∧ σ[i]? = some (some v)) (rs : RS K H (G ++ σ.zip S)) :
    RS K H ((vs.map some).zip (DM.outs mask S) ++ G) := by
  obtain ⟨O, n, r⟩ := rs
  obtain ⟨f1, f2, rfl, r1, r2⟩ := RL.split r
  obtain ⟨fp', s, q⟩ := RL.outs h l hm r2
  have n' : (f1 ++ fp').Nodup := n.sublist (s.append_left f1)
  have sub : ∀ a, a ∈ f1 ++ fp' → a ∈ f1 ++ f2 := fun a ha => (s.append_left f1).subset ha
  exact RS.perm List.perm_append_comm ⟨f1 ++ fp', n', (r1.fewer sub).append (q.fewer sub)⟩
theorem RL.gones {K : PySem.W.Frag} {H : Hp} {O : List Addr} (hT : TabsOk H O) : ∀ n : Nat, RL K H O ((List.replicate n (none : Option V)).zip (List.replicate n M.gone)) []
  | 0 => .nil hT
  | n + 1 => .cons (fp := []) (.gone _) (RL.gones hT n)
/-- what the body of a def is to bring about -/
def bodyE (mask : List Bool) (R : RMx) (XR : XM) : EM := ⟨fun S' => R (.v .non) (outs mask S'), fun r S' => R r (outs mask S'), fun _ => False, fun _ => False, fun x S' => XR x (outs mask S')⟩
/-- m is what the body B does: N names, mask the parameters -/
def BodyIs (mask : List Bool) (N : Nat) (B : FS) (m : FM) : Prop := ∀ (ms : List M) (R : RMx) (XR : XM), ms.length = mask.length → m ms R XR → B (bodyE mask R XR) (ms ++ List.replicate (N - mask.length) .gone)
section
variable {P : Program} {w : World} {K : PySem.W.Frag} {mg : Str → Option Value} {base : Heap}
theorem fn_ok {x qual : Str} {st : Stmt} {f : Addr} {fd : FuncData} {dvs : List V} {kws : List (Str × V)} {N ps : List Str} {k : Nat} {mask : List Bool} {B : FS} {m : FM} (F : FunD K x qual (defArgs st) (defBody st) (defScope st) dvs kws f fd) (Sc : FnScope N ps (defScope st)) (hmask : mask.length = ps.length)
    (body : ∀ (cdv : Value) (A : Around) (outer : List Env) (s : Shared) (H : Hp) (E : XK), fd.code = cdv → Room k (A.deeper (envOfC qual (defScope st) s.heap.objs.size f cdv)) → Takes (cxOf (L2.CX P w) P w K mg base N qual (defScope st) f cdv A outer s H E) (fun c d _ H => E c d H) →
      PassesOwn (model P w) (A.deeper (envOfC qual (defScope st) s.heap.objs.size f cdv)) (envOfC qual (defScope st) s.heap.objs.size f cdv) (cxOf (L2.CX P w) P w K mg base N qual (defScope st) f cdv A outer s H E).xe →
      DSs (cxOf (L2.CX P w) P w K mg base N qual (defScope st) f cdv A outer s H E) (fun c d _ H => E c d H) mask (defBody st) B)
    (hm : BodyIs mask N.length B m) : FnOk P w K mg base (L2.CX P w) (k + 1) f fd ps (spOf K ps.length m) := by
  have hpl : ps.length ≤ N.length := by have := congrArg List.length Sc.pre; rw [List.length_take] at this; omega
  obtain ⟨oc, od, dV, kV, doc, pm, an, cdv, ct, osl, rfl, lk, hcd, _, _⟩ := F.ex
  refine fn_of lk hcd Sc (fun vs H Q E h => h.1) fun A outer s H vs Q E hr h => ?_
  refine ⟨_, (body cdv A outer s H E rfl hr (takes_of rfl rfl rfl rfl) (passes_of rfl)).ps, ?_⟩
  obtain ⟨lv, G, ms, R, XR, lm, rs, hms, hQ, hX⟩ := h
  have lN : N.length - vs.length = N.length - mask.length := by rw [lv, hmask]
  have len0 : (L2.start N vs).length = (ms ++ List.replicate (N.length - mask.length) M.gone).length := by
    unfold L2.start
    rw [List.length_append, List.length_append, List.length_map, List.length_replicate, List.length_replicate, lv, lm, hmask]
  have rs0 : RS K H (G ++ (L2.start N vs).zip (ms ++ List.replicate (N.length - mask.length) M.gone)) := by
    unfold L2.start
    rw [List.zip_append (by rw [List.length_map, lv, lm]), lN]
    obtain ⟨O, n, r⟩ := RS.perm List.perm_append_comm rs
    refine ⟨O, n, ?_⟩
    rw [← List.append_assoc]
    have q := r.append (RL.gones (K := K) (H := H) (O := O) r.tabs (N.length - mask.length))
    rw [List.append_nil] at q
    exact q
  have hmk : mask.length = vs.length := by rw [hmask, lv]
  have fin : ∀ {σ' : L2.St}, Ag mask (L2.start N vs) σ' → ∀ i : Nat, mask[i]? = some true → ∃ v, vs[i]? = some v ∧ σ'[i]? = some (some v) := fun {σ'} ag i hi => by
    have hi' : i < vs.length := by rw [← hmk]; exact (List.getElem?_eq_some_iff.mp hi).1
    refine ⟨vs[i], List.getElem?_eq_getElem hi', ?_⟩
    rw [ag.same i hi]
    unfold L2.start
    rw [List.getElem?_append_left (by rw [List.length_map]; exact hi'), List.getElem?_map, List.getElem?_eq_getElem hi']
    rfl
  refine ⟨G, _, _, len0, rs0, hm ms R XR (by rw [lm, hmask]) hms, fun S' σ' H' ag l' hn rs' => ?_, fun r S' v σ' H' ag l' hr rs' => ?_, fun _ _ _ _ _ h _ => h.elim, fun _ _ _ _ _ h _ => h.elim, fun c fs S' d σ' H' ag l' hx xo => ?_⟩
  · exact hQ _ _ _ H' hn ((RS.outs hmk l' (fin ag) rs').val fun _ => .non)
  · have q := RS.outs (G := (some v, r) :: G) hmk l' (fin ag) rs'
    exact hQ _ _ _ H' hr (RS.perm (perm_mid _ _ _) q)
  · refine hX c fs _ d H' hx (xo.imp fun L1 r => ?_)
    have r1 : RS K H' ((L1 ++ G) ++ σ'.zip S') := by rw [List.append_assoc]; exact r
    exact RS.rot (RS.outs hmk l' (fin ag) r1)
end
end
end DM

/-! List comprehensions. -/
namespace DM
open PySem PySem.Spec PyProof.Rows
open L2
variable [Tabs]
section
def wipeM (S : List M) : List Nat → List M
  | [] => S
  | i :: is => (wipeM S is).set i .gone
def restM (S : List M) : List Nat → List M → List M
  | [], S' => S'
  | i :: is, S' => restM S is (S'.set i ((wipeM S is)[i]?.getD .gone))
def ownP (σ : L2.St) (S : List M) : List Nat → List Pr
  | [] => []
  | i :: is => ((wipe σ is)[i]?.getD none, (wipeM S is)[i]?.getD .gone) :: ownP σ S is
theorem wipeM_len (S : List M) : ∀ is, (wipeM S is).length = S.length
  | [] => rfl
  | i :: is => by unfold wipeM; rw [List.length_set, wipeM_len S is]
theorem restM_len (S : List M) : ∀ is S', (restM S is S').length = S'.length
  | [], S' => rfl
  | i :: is, S' => by unfold restM; rw [restM_len S is, List.length_set]
variable {K : PySem.W.Frag} {H : Hp}
theorem own_take {σ : L2.St} {S : List M} (l : σ.length = S.length) : ∀ {is : List Nat} {G : List Pr}, RS K H (G ++ σ.zip S) → RS K H ((ownP σ S is ++ G) ++ (wipe σ is).zip (wipeM S is))
  | [], G, h => h
  | i :: is, G, h => by
    have ih := own_take l (is := is) h
    have l' : (wipe σ is).length = (wipeM S is).length := by rw [wipe_length, wipeM_len]; exact l
    show RS K H (((((wipe σ is)[i]?.getD none, (wipeM S is)[i]?.getD .gone) :: ownP σ S is) ++ G) ++ ((wipe σ is).set i none).zip ((wipeM S is).set i .gone))
    by_cases hi : i < (wipeM S is).length
    · obtain ⟨x, e1, r⟩ := RS.take ih l' (List.getElem?_eq_getElem hi)
      have r2 := RS.put' (i := i) (r.add0 none |> fun q => (show RS K H ((none, .gone) :: (((x, (wipeM S is)[i]) :: (ownP σ S is ++ G)) ++ (wipe σ is).zip ((wipeM S is).set i .gone))) from q)) (by rw [List.length_set]; exact l')
      rw [set_set'] at r2
      rw [e1, List.getElem?_eq_getElem hi]
      exact r2
    · rw [List.set_eq_of_length_le (by omega), List.set_eq_of_length_le (by omega), List.getElem?_eq_none_iff.mpr (by omega), List.getElem?_eq_none_iff.mpr (by omega)]
      exact ih.add0 none
theorem own_back {σ : L2.St} {S : List M} (l : σ.length = S.length) : ∀ {is : List Nat} {G : List Pr} {S' : List M}, σ.length = S'.length → RS K H ((ownP σ S is ++ G) ++ (wipe σ is).zip S') → RS K H (G ++ σ.zip (restM S is S'))
  | [], G, S', _, h => h
  | i :: is, G, S', l2, h => by
    show RS K H (G ++ σ.zip (restM S is (S'.set i ((wipeM S is)[i]?.getD .gone))))
    refine own_back l (is := is) (by rw [List.length_set]; exact l2) ?_
    have h : RS K H (((((wipe σ is)[i]?.getD none, (wipeM S is)[i]?.getD .gone) :: ownP σ S is) ++ G) ++ ((wipe σ is).set i none).zip S') := h
    have l' : ((wipe σ is).set i none).length = S'.length := by rw [List.length_set, wipe_length]; exact l2
    have r := RS.put' (i := i) (G := ownP σ S is ++ G) h l'
    rw [set_set'] at r
    by_cases hi : i < (wipe σ is).length
    · rw [List.getElem?_eq_getElem hi] at r
      have e : (wipe σ is).set i (((some (wipe σ is)[i] : Option (Option V))).getD none) = wipe σ is := set_get (List.getElem?_eq_getElem hi)
      rw [e] at r
      exact r
    · have e1 : ∀ x, (wipe σ is).set i x = wipe σ is := fun x => List.set_eq_of_length_le (by omega)
      rw [e1] at r
      exact r
theorem wipe_get (σ : L2.St) : ∀ (is : List Nat) (j : Nat), (wipe σ is)[j]? = if j ∈ is then (σ[j]?).map (fun _ => none) else σ[j]?
  | [], j => by simp [wipe]
  | i :: is, j => by
    unfold wipe
    by_cases e : i = j
    · subst e
      rw [if_pos List.mem_cons_self]
      by_cases hi : i < (wipe σ is).length
      · have hi' : i < σ.length := by rw [wipe_length] at hi; exact hi
        rw [List.getElem?_set_self hi, List.getElem?_eq_getElem hi']
        rfl
      · have hi' : ¬ i < σ.length := by rw [wipe_length] at hi; exact hi
        rw [List.getElem?_eq_none_iff.mpr (by rw [List.length_set]; omega), List.getElem?_eq_none_iff.mpr (show σ.length ≤ i by omega)]
        rfl
    · rw [List.getElem?_set_ne e, wipe_get σ is j]
      have : (j ∈ i :: is) ↔ j ∈ is := by simp [Ne.symm e]
      by_cases h : j ∈ is
      · rw [if_pos h, if_pos (this.mpr h)]
      · rw [if_neg h, if_neg fun z => h (this.mp z)]
theorem wipe_eq {σ σ2 : L2.St} {is : List Nat} (h : ∀ j, j ∉ is → σ2[j]? = σ[j]?) (l : σ2.length = σ.length) : wipe σ2 is = wipe σ is := by
  apply List.ext_getElem?
  intro j
  rw [wipe_get, wipe_get]
  by_cases e : j ∈ is
  · rw [if_pos e, if_pos e]
    by_cases hj : j < σ.length
    · rw [List.getElem?_eq_getElem hj, List.getElem?_eq_getElem (by omega)]
      rfl
    · rw [List.getElem?_eq_none_iff.mpr (by omega), List.getElem?_eq_none_iff.mpr (by omega)]
  · rw [if_neg e, if_neg e]
    exact h j e
theorem wipe_wipe (σ : L2.St) (is : List Nat) : wipe (wipe σ is) is = wipe σ is := wipe_eq (fun j hj => by rw [wipe_get, if_neg hj]) (wipe_length _ _)
/-- all slots but the block's own are left -/
def maskOk (n : Nat) (own : List Nat) (mask : List Bool) : Bool := (List.range n).all fun i => own.contains i || mask[i]? == some true
theorem wipe_ag {n : Nat} {own : List Nat} {mask : List Bool} {σ σ2 : L2.St} (hm : maskOk n own mask = true) (ln : σ.length = n) (ag : Ag mask (wipe σ own) σ2) : wipe σ2 own = wipe σ own := by
  rw [← wipe_wipe σ own]
  refine wipe_eq (fun j hj => ?_) ag.len
  by_cases hn : j < n
  · have h := List.all_eq_true.mp hm j (List.mem_range.mpr hn)
    rw [Bool.or_eq_true] at h
    rcases h with h | h
    · exact absurd (by simpa using h) hj
    · exact ag.same j (by simpa using h)
  · rw [List.getElem?_eq_none_iff.mpr (by rw [ag.len, wipe_length]; omega), List.getElem?_eq_none_iff.mpr (by rw [wipe_length]; omega)]

theorem perm_rot {α : Type} (A B C : List α) : (A ++ (B ++ C)).Perm (B ++ (A ++ C)) := by
  rw [← List.append_assoc, ← List.append_assoc]
  exact List.perm_append_comm.append_right C
abbrev W0 : WX := fun _ _ _ _ => False
def X0 : XM := fun _ _ => False
def lcL (g : FG) (tt : FT) (te : FE) (own : List Nat) (Kf : List D → List M → Prop) : List D → List D → List M → Prop
  | [], acc, S => Kf acc S
  | d :: ds, acc, S => g (.v d) S (fun S1 => tt S1 (fun b S2 => iteP b (te S2 (fun y S3 => asD y fun e => acc.length < sizeLine ∧ lcL g tt te own Kf ds (acc ++ [e]) (wipeM S3 own)) X0) (lcL g tt te own Kf ds acc (wipeM S2 own))) X0) X0
structure LcL (g : FG) (tt : FT) (te : FE) (own : List Nat) (Kf : List D → List M → Prop) (ds acc : List D) (S : List M) : Prop where
  go : lcL g tt te own Kf ds acc S
def fLc (fi : FI) (g : FG) (tt : FT) (te : FE) (own : List Nat) : FE := fun S R XR => fi S (fun items S0 => LcL g tt te own (fun acc S' => R (.ml acc) (restM S0 own S')) items [] (wipeM S0 own)) XR
def tTrue : FT := fun S R _ => R true S
structure DTs (X : Cx) (W : WX) (ifs : List Expr) (F : FT) : Prop where
  pts : PTs X ifs (tDT X.K W F)
variable {X : Cx} {W : WX}
theorem dts_nil : DTs X W [] tTrue := ⟨⟨fun pins s σ H Q I h => (pts_nil (X := X)).run pins s σ H Q I (by
  obtain ⟨G, S, R, XR, l, rs, hF, hQ, hX⟩ := h
  exact hQ true S H l hF rs)⟩⟩
theorem dts_one {c : Expr} {F : FT} (h : DT X W c F) : DTs X W [c] F := ⟨pts_one h.pt⟩
theorem xok0 {K : PySem.W.Frag} {σ : L2.St} {G : List Pr} {W : WX} : ∀ (c : Value) (fs : Option (List (Str × D))) (S' : List M) (d : Option Addr) (H' : Hp), σ.length = S'.length → X0 (c, fs) S' → XOk K H' d fs (G ++ σ.zip S') → W c d σ H' := fun _ _ _ _ _ _ h _ => h.elim
theorem lc_core {K : PySem.W.Frag} {g : FG} {tt : FT} {te : FE} {own : List Nat} {mask : List Bool} {σ : L2.St} {H H1 : Hp} {Q : VK} {G P : List Pr} {S0 : List M} {R : RMx} {items : List D} {J : It} (hm : maskOk σ.length own mask = true) (l0 : σ.length = S0.length)
    (h0 : LcL g tt te own (fun acc S' => R (.ml acc) (restM S0 own S')) items [] (wipeM S0 own)) (sv : Serve K J P items) (rs0 : RS K H1 (P ++ (G ++ σ.zip S0))) (hQ : ∀ m S' v H', σ.length = S'.length → R m S' → RS K H' (P ++ ((some v, m) :: (G ++ σ.zip S'))) → Q v H') :
    tLc (fun _ _ Rr => Rr J H1) (tDG K W0 mask g) (tDT K W0 tt) (tD K W0 te) own σ H Q := by
  refine fun Da hD => ?_
  have a1 : RS K (upd H1 Da (.lst [])) ((some (.ref Da), .ml []) :: (P ++ (G ++ σ.zip S0))) := by
    obtain ⟨O, n, r⟩ := rs0
    exact RS.newLst (vs := []) (ds := []) ⟨O, n, .nil, r⟩ hD
  have a2 : RS K (upd H1 Da (.lst [])) ((ownP σ S0 own ++ ((some (.ref Da), .ml []) :: (P ++ G))) ++ (wipe σ own).zip (wipeM S0 own)) := own_take l0 (by
    rw [List.cons_append, List.append_assoc]; exact a1)
  refine ⟨fun i m H' => ∃ S' acc, σ.length = S'.length ∧ RS K H' ((ownP σ S0 own ++ ((some (.ref Da), .ml acc) :: (P ++ G))) ++ (wipe σ own).zip S') ∧ i + m = items.length ∧ lcL g tt te own (fun acc S' => R (.ml acc) (restM S0 own S')) (items.drop i) acc S',
    ⟨items.length, _, [], by rw [wipeM_len]; exact l0, a2, Nat.zero_add _, h0.go⟩, fun i m H2 hW => ?_⟩
  obtain ⟨S1, acc, l1, rs1, em, h1⟩ := hW
  -- P ahead
  have toP : ∀ {H' : Hp} {acc : List D} {S' : List M} {σ' : L2.St}, RS K H' ((ownP σ S0 own ++ ((some (.ref Da), .ml acc) :: (P ++ G))) ++ σ'.zip S') → RS K H' (P ++ (ownP σ S0 own ++ ((some (.ref Da), .ml acc) :: (G ++ σ'.zip S')))) := fun {H' acc S' σ'} r => by
    refine RS.perm ?_ r
    have e1 : ((ownP σ S0 own ++ ((some (V.ref Da), M.ml acc) :: (P ++ G))) ++ σ'.zip S') = (ownP σ S0 own ++ [(some (V.ref Da), M.ml acc)]) ++ (P ++ (G ++ σ'.zip S')) := by simp
    have e2 : (P ++ (ownP σ S0 own ++ ((some (V.ref Da), M.ml acc) :: (G ++ σ'.zip S')))) = P ++ ((ownP σ S0 own ++ [(some (V.ref Da), M.ml acc)]) ++ (G ++ σ'.zip S')) := by simp
    rw [e1, e2]
    exact perm_rot _ _ _
  obtain ⟨s1, s2⟩ := sv i H2 _ (toP rs1)
  cases e : items[i]? with
  | none =>
    have hl : items.length ≤ i := List.getElem?_eq_none_iff.mp e
    rw [List.drop_eq_nil_of_le hl] at h1
    refine .inl ⟨s2 hl, hQ _ _ _ H2 (by rw [restM_len]; exact l1) h1 ?_⟩
    have b1 := own_back l0 l1 rs1
    have b2 : RS K H2 ((some (.ref Da), .ml acc) :: (P ++ (G ++ σ.zip (restM S0 own S1)))) := by
      rw [List.cons_append, List.append_assoc] at b1; exact b1
    have b3 : RS K H2 (P ++ ((some (.ref Da), .ml acc) :: (G ++ σ.zip (restM S0 own S1)))) := RS.perm (perm_mid _ _ _).symm b2
    exact b3
  | some d =>
    have hl : i < items.length := (List.getElem?_eq_some_iff.mp e).1
    rw [List.drop_eq_getElem_cons hl, (List.getElem?_eq_some_iff.mp e).2] at h1
    obtain ⟨g1, g2⟩ := s1 d e
    refine .inr ⟨g1, fun H' => ∃ S' acc, σ.length = S'.length ∧ RS K H' ((ownP σ S0 own ++ ((some (.ref Da), .ml acc) :: (P ++ G))) ++ (wipe σ own).zip S') ∧ lcL g tt te own (fun acc S' => R (.ml acc) (restM S0 own S')) (items.drop (i + 1)) acc S', fun H' ⟨S', acc, a, b, c⟩ => ⟨m - 1, by omega, S', acc, a, b, by omega, c⟩, fun x H3 hy => ?_⟩
    have c1 := g2 x H3 hy
    have c2 : RS K H3 ((some x, .v d) :: ((ownP σ S0 own ++ ((some (.ref Da), .ml acc) :: (P ++ G))) ++ (wipe σ own).zip S1)) := by
      refine RS.perm (List.Perm.cons _ ?_) c1
      have e1 : ((ownP σ S0 own ++ ((some (V.ref Da), M.ml acc) :: (P ++ G))) ++ (wipe σ own).zip S1) = (ownP σ S0 own ++ [(some (V.ref Da), M.ml acc)]) ++ (P ++ (G ++ (wipe σ own).zip S1)) := by simp
      have e2 : (P ++ (ownP σ S0 own ++ ((some (V.ref Da), M.ml acc) :: (G ++ (wipe σ own).zip S1)))) = P ++ ((ownP σ S0 own ++ [(some (V.ref Da), M.ml acc)]) ++ (G ++ (wipe σ own).zip S1)) := by simp
      rw [e1, e2]
      exact perm_rot _ _ _
    refine ⟨_, S1, .v d, _, X0, by rw [wipe_length]; exact l1, c2, h1, fun S2 σ2 H4 ag2 l2 h2 rs2 => ?_, fun _ _ _ _ _ _ _ _ h _ => h.elim⟩
    have wσ := wipe_ag hm rfl ag2
    have lσ : σ2.length = σ.length := ag2.len.trans (wipe_length _ _)
    refine ⟨wσ, ?_⟩
    refine ⟨_, S2, _, X0, l2, rs2, h2, fun b S3 H5 l3 h3 rs3 => ?_, xok0⟩
    -- the own slots are forgotten
    have wipeR : ∀ {H' : Hp} {acc' : List D} {S' : List M}, σ2.length = S'.length → RS K H' ((ownP σ S0 own ++ ((some (.ref Da), .ml acc') :: (P ++ G))) ++ σ2.zip S') → RS K H' ((ownP σ S0 own ++ ((some (.ref Da), .ml acc') :: (P ++ G))) ++ (wipe σ own).zip (wipeM S' own)) := fun {H' acc' S'} l' r => by
      have q := own_take l' (is := own) r
      rw [wσ, List.append_assoc] at q
      exact RS.dropL q
    cases b with
    | true =>
      dsimp only
      rw [iteP_t] at h3; rw [if_pos rfl]
      refine ⟨_, S3, _, X0, l3, rs3, h3, fun y S4 v H6 l4 h4 rs4 => ?_, xok0⟩
      -- the item comes onto the list
      obtain ⟨e, ⟨z, hk⟩, rs5⟩ := RS.asD rs4 h4
      have rs6 : RS K H6 ((some (.ref Da), .ml acc) :: (some v, .v e) :: (ownP σ S0 own ++ ((P ++ G) ++ σ2.zip S4))) := by
        refine RS.perm ?_ rs5
        refine ((List.Perm.cons _ ?_).trans (.swap _ _ _))
        have e1 : ∀ q : Pr, ((ownP σ S0 own ++ (q :: (P ++ G))) ++ σ2.zip S4) = ownP σ S0 own ++ (q :: ((P ++ G) ++ σ2.zip S4)) := fun q => by simp
        rw [e1]
        exact perm_mid _ _ _
      obtain ⟨a, ws, e1, hH, hl', O, n, r1, r2, st, put⟩ := RS.ml2 rs6
      cases e1
      obtain ⟨_, q⟩ := r2.tl
      obtain ⟨v', e2, h2'⟩ := q.hd
      cases e2
      have rs7 : RS K (upd H6 Da (.lst (ws ++ [v]))) ((some (.ref Da), .ml (acc ++ [e])) :: (some v, .v e) :: (ownP σ S0 own ++ ((P ++ G) ++ σ2.zip S4))) := ⟨O, n, put _ _ (r1.append (.cons h2' .nil))⟩
      refine ⟨ws, hH, by rw [hl']; exact z, wipeM S4 own, acc ++ [e], by rw [wipeM_len, ← l4, lσ], ?_, hk⟩
      refine wipeR l4 ?_
      refine RS.perm ?_ rs7.swap.drop
      have e1 : ∀ q : Pr, ((ownP σ S0 own ++ (q :: (P ++ G))) ++ σ2.zip S4) = ownP σ S0 own ++ (q :: ((P ++ G) ++ σ2.zip S4)) := fun q => by simp
      rw [e1]
      exact (perm_mid _ _ _).symm
    | false =>
      dsimp only
      rw [iteP_f] at h3; rw [if_neg (by decide)]
      exact ⟨wipeM S3 own, acc, by rw [wipeM_len, ← l3, lσ], wipeR l3 rs3, h3⟩
theorem lc_read {K : PySem.W.Frag} {W : WX} {fi : FI} {g : FG} {tt : FT} {te : FE} {own : List Nat} {mask : List Bool} {σ : L2.St} {H : Hp} {Q : VK} (hm : maskOk σ.length own mask = true) (h : tD K W (fLc fi g tt te own) σ H Q) :
    tLc (tDI K W fi) (tDG K W0 mask g) (tDT K W0 tt) (tD K W0 te) own σ H Q := by
  obtain ⟨G, S, R, XR, l, rs, hF, hQ, hX⟩ := h
  exact ⟨G, S, _, XR, l, rs, hF, fun items S0 J P H1 l0 h0 sv rs0 => lc_core (H := H) hm l0 h0 sv rs0 fun m S' v H' l' r rs' => hQ m S' v H' l' r (RS.dropL rs'), hX⟩
theorem de_lc {elt tg iter : Expr} {ifs : List Expr} {scope : Scope} {own : List (Str × Nat)} {pos : Pos} {fi : FI} {g : FG} {tt : FT} {te : FE} {mask : List Bool} (hc : X.calm = true) (hN : X.N.Nodup) (hi : DI X W tg iter fi) (ok : BlkOk X.N X.env.scope scope own)
    (hg : ∀ (s : Shared) (H : Hp) (C : Addr) (cl : List (Str × Addr)) (fp : List Addr), DG (X.blk s H scope (compEnvC scope cl C X.env) fp) W0 mask tg g) (ht : ∀ (s : Shared) (H : Hp) (C : Addr) (cl : List (Str × Addr)) (fp : List Addr), DTs (X.blk s H scope (compEnvC scope cl C X.env) fp) W0 ifs tt)
    (he : ∀ (s : Shared) (H : Hp) (C : Addr) (cl : List (Str × Addr)) (fp : List Addr), DE (X.blk s H scope (compEnvC scope cl C X.env) fp) W0 elt te) (hmk : maskOk X.N.length (own.map (·.2)) mask = true := by rfl) (hs : ∀ x, foldedSetIterable iter X.env x = pure x := by intro _; rfl) :
    DE X W (.ListComp elt [⟨tg, iter, ifs, 0⟩] scope pos) (fLc fi g tt te (own.map (·.2))) :=
  ⟨⟨fun pins s σ H Q I h => (pe_lc (wi := tDI X.K W fi) (g := tDG X.K W0 mask g) (tt := tDT X.K W0 tt) (te := tD X.K W0 te) hc hN hi.pi ok (fun s H C cl fp => (hg s H C cl fp).pg) (fun s H C cl fp => (ht s H C cl fp).pts) (fun s H C cl fp => (he s H C cl fp).pe) hs).run pins s σ H Q I (lc_read (by rw [I.len]; exact hmk) h)⟩⟩
/-- name = [..] -/
theorem ds_setLc {i : Nat} {y : Str} {py : Pos} {elt tg iter : Expr} {ifs : List Expr} {scope : Scope} {own : List (Str × Nat)} {pos spos : Pos} {fi : FI} {g : FG} {tt : FT} {te : FE} {mask m0 : List Bool} (hc : X.calm = true) (hN : X.N.Nodup) (hy : X.N[i]? = some y) (hyl : X.env.scope.names.lookup y = some .local)
    (hsw : swapsWith (.ListComp elt [⟨tg, iter, ifs, 0⟩] scope pos) (some (.Name y py)) spos.line X.env = pure true) (hi : DI X W tg iter fi) (ok : BlkOk X.N X.env.scope scope own)
    (hg : ∀ (s : Shared) (H : Hp) (C : Addr) (cl : List (Str × Addr)) (fp : List Addr), DG (X.blk s H scope (compEnvC scope cl C X.env) fp) W0 mask tg g) (ht : ∀ (s : Shared) (H : Hp) (C : Addr) (cl : List (Str × Addr)) (fp : List Addr), DTs (X.blk s H scope (compEnvC scope cl C X.env) fp) W0 ifs tt)
    (he : ∀ (s : Shared) (H : Hp) (C : Addr) (cl : List (Str × Addr)) (fp : List Addr), DE (X.blk s H scope (compEnvC scope cl C X.env) fp) W0 elt te) (hmk : maskOk X.N.length (own.map (·.2)) mask = true := by rfl) (hm : m0[i]? ≠ some true := by decide) (hs : ∀ x, foldedSetIterable iter X.env x = pure x := by intro _; rfl) :
    DS X W m0 (.Assign [.Name y py] (.ListComp elt [⟨tg, iter, ifs, 0⟩] scope pos) spos) (sSet i (fLc fi g tt te (own.map (·.2)))) :=
  ⟨⟨fun pins s σ H D I h => (ps_setLc (wi := tDI X.K W fi) (g := tDG X.K W0 mask g) (tt := tDT X.K W0 tt) (te := tD X.K W0 te) hc hN hy hyl hsw hi.pi ok (fun s H C cl fp => (hg s H C cl fp).pg) (fun s H C cl fp => (ht s H C cl fp).pts) (fun s H C cl fp => (he s H C cl fp).pe) hs).run pins s σ H D I (by
    obtain ⟨G, S, E, l, rs, hF, nx, rt, bk, ct, ex⟩ := h
    refine lc_read (W := W) (mask := mask) (by rw [I.len]; exact hmk) ?_
    exact ⟨G, S, _, E.ex, l, rs, hF, fun m S' v H' l' hmm rs' => nx _ _ H' (Ag.set _ hm) (by rw [List.length_set, List.length_set]; exact l') (Eq.mp (setK_eq _ _ _ _) hmm) (rs'.put' l'), fun c fs S' d H' l' hx xo => ex c fs S' d σ H' (Ag.refl σ) l' hx xo⟩)⟩⟩
end
end DM

/-! Ends, and loops by a word. -/
namespace DM
open PySem PySem.Spec PyProof.Rows
open L2
variable [Tabs]
theorem fn_false {P : Program} {w : World} {K : PySem.W.Frag} {mg : Str → Option Value} {base : Heap} {CX : CXT} {k : Nat} {f : Addr} {fd : FuncData} {ps : List Str} {m : FM} (h : ∀ ms R XR, ¬ m ms R XR) : FnOk P w K mg base CX k f fd ps (spOf K ps.length m) :=
  ⟨fun _ _ _ _ z => z.1, fun _ _ _ _ _ _ _ _ _ _ _ _ _ z => by
    obtain ⟨_, G, ms, R, XR, _, _, q, _⟩ := z
    exact (h ms R XR q).elim⟩
theorem cx_false {P : Program} {w : World} {H : Hp} {s : Shared} {e : Value} {s' : Shared} (h : L2.CX P w [] H s (fun _ _ _ => False) e s') : False := by
  obtain ⟨_, _, _, _, _, _, _, _, _, _, _, _, z⟩ := h
  exact z.elim
theorem rds_ints {K : PySem.W.Frag} {H : Hp} {O : List Addr} : ∀ ns : List Int, RDs K H O (ns.map V.int) (ns.map D.int)
  | [] => .nil
  | n :: ns => .cons (.int n) (rds_ints ns)
/-- the law's call: the script is a list of ints -/
theorem start_law {K : PySem.W.Frag} {H : Hp} {a : Addr} {ns : List Int} {m : FM} (hT : TabsOk H []) (hS : SqL K H a (ns.map V.int)) (h : ∀ R : RMx, (∀ ms', R (.v (.bl true)) ms') → m [.v (.lst (ns.map D.int))] R fun _ _ => False) : spOf K 1 m [.ref a] H (fun v _ => v = .bl true) fun _ _ _ => False := by
  refine ⟨rfl, [], [.v (.lst (ns.map D.int))], fun r _ => r = .v (.bl true), fun _ _ => False, rfl, ?_, h _ fun _ => rfl, fun r ms' v H' hr rs => ?_, fun _ _ _ _ _ z _ => z.elim⟩
  · refine ⟨[], List.nodup_nil, .cons (fp := []) (.v (.lst ?_ (rds_ints ns))) (.nil hT)⟩
    exact hS.imp (fun q => ⟨q, List.not_mem_nil⟩) id
  · subst hr
    obtain ⟨O, f1, n, h1, r⟩ := RS.one rs
    have e := h1.bl
    exact Option.some.inj e
theorem forL_by {g : FG} {b : FS} {E : EM} (P : Nat → List M → Prop) {ds : List D} (h : ∀ (i : Nat) (d : D) (S : List M) (K : List M → Prop), ds[i]? = some d → P i S → (∀ S', P (i + 1) S' → K S') → g (.v d) S (fun S1 => b { E with nx := K, ct := K, bk := E.nx } S1) E.ex)
    (he : ∀ S, P ds.length S → E.nx S) : ∀ S, P 0 S → ForL g b E ds S := by
  have go : ∀ (n i : Nat), n = ds.length - i → i ≤ ds.length → ∀ S, P i S → forL g b E (ds.drop i) S := by
    intro n
    induction n with
    | zero =>
      intro i hn hi S hP
      have e : i = ds.length := by omega
      subst e
      rw [List.drop_length]
      exact he S hP
    | succ n ih =>
      intro i hn hi S hP
      have hl : i < ds.length := by omega
      rw [List.drop_eq_getElem_cons hl]
      exact h i ds[i] S _ (List.getElem?_eq_getElem hl) hP fun S' hP' => ih (i + 1) (by omega) (by omega) S' hP'
  intro S hP
  have q := go _ 0 rfl (Nat.zero_le _) S hP
  rw [List.drop_zero] at q
  exact ⟨q⟩
theorem lcL_by {g : FG} {tt : FT} {te : FE} {own : List Nat} {Kf : List D → List M → Prop} (P : Nat → List D → List M → Prop) {ds : List D}
    (h : ∀ (i : Nat) (d : D) (acc : List D) (S : List M) (K : List D → List M → Prop), ds[i]? = some d → P i acc S → (∀ acc' S', P (i + 1) acc' S' → K acc' S') →
      g (.v d) S (fun S1 => tt S1 (fun b S2 => iteP b (te S2 (fun y S3 => asD y fun e => acc.length < sizeLine ∧ K (acc ++ [e]) (wipeM S3 own)) X0) (K acc (wipeM S2 own))) X0) X0)
    (he : ∀ acc S, P ds.length acc S → Kf acc S) : ∀ acc S, P 0 acc S → LcL g tt te own Kf ds acc S := by
  have go : ∀ (n i : Nat), n = ds.length - i → i ≤ ds.length → ∀ acc S, P i acc S → lcL g tt te own Kf (ds.drop i) acc S := by
    intro n
    induction n with
    | zero =>
      intro i hn hi acc S hP
      have e : i = ds.length := by omega
      subst e
      rw [List.drop_length]
      exact he acc S hP
    | succ n ih =>
      intro i hn hi acc S hP
      have hl : i < ds.length := by omega
      rw [List.drop_eq_getElem_cons hl]
      exact h i ds[i] acc S (fun acc' S' => lcL g tt te own Kf (ds.drop (i + 1)) acc' S') (List.getElem?_eq_getElem hl) hP fun acc' S' hP' => ih (i + 1) (by omega) (by omega) acc' S' hP'
  intro acc S hP
  have q := go _ 0 rfl (Nat.zero_le _) acc S hP
  rw [List.drop_zero] at q
  exact ⟨q⟩
theorem rngD_len (lo : Int) (n : Nat) (c : Int) : (rngD lo n c).length = n := by simp [rngD]
theorem map_get {α : Type} {f : α → D} {xs : List α} {i : Nat} {d : D} (h : (xs.map f)[i]? = some d) : ∃ x, xs[i]? = some x ∧ d = f x := by
  rw [List.getElem?_map] at h
  cases e : xs[i]? with
  | none => rw [e] at h; cases h
  | some x => rw [e] at h; exact ⟨x, rfl, (Option.some.inj h).symm⟩
theorem wh_of {c : FT} {b : FS} {E : EM} {S : List M} (P : List M → Prop) (μ : List M → Nat) (hP : P S) (h : ∀ S, P S → ∀ n, (∀ S', P S' → μ S' < μ S → whN c b E n S') → whN c b E (n + 1) S) : ∃ n, whN c b E n S :=
  ⟨μ S + 1, wh_by P μ h _ S hP (Nat.lt_succ_self _)⟩
theorem take_succ' {α : Type} {l : List α} {i : Nat} {x : α} (h : l[i]? = some x) : l.take (i + 1) = l.take i ++ [x] := by
  rw [List.take_add_one, h]; rfl
/-! ### isinstance against a built-in class -/
def isaNone (m : M) (k : Bool → Prop) : Prop := match m with
  | .v .non => k false
  | _ => False
def isaB (t : String → Bool) (m : M) (k : Bool → Prop) : Prop := match m with
  | .v .non => k (t "NoneType")
  | .v (.bl _) => k (t "bool")
  | .v (.int _) => k (t "int")
  | .v (.str _) => k (t "str")
  | .v (.tup _) => k (t "tuple")
  | .v (.lst _) => k (t "list")
  | .v (.dK _ _) => k (t "dict")
  | .v (.dT _ _) => k (t "dict")
  | .ml _ => k (t "list")
  | .mk _ _ => k (t "dict")
  | .mt _ _ => k (t "dict")
  | _ => False
def isaBool (m : M) (k : Bool → Prop) : Prop := match m with
  | .v .non => k false
  | .v (.bl _) => k true
  | .v (.int _) => k false
  | .v (.str _) => k false
  | .v (.tup _) => k false
  | .v (.lst _) => k false
  | .v (.dK _ _) => k false
  | .v (.dT _ _) => k false
  | .ml _ => k false
  | .mk _ _ => k false
  | .mt _ _ => k false
  | _ => False
def isaInt (m : M) (k : Bool → Prop) : Prop := match m with
  | .v .non => k false
  | .v (.bl _) => k true
  | .v (.int _) => k true
  | .v (.str _) => k false
  | .v (.tup _) => k false
  | .v (.lst _) => k false
  | .v (.dK _ _) => k false
  | .v (.dT _ _) => k false
  | .ml _ => k false
  | .mk _ _ => k false
  | .mt _ _ => k false
  | _ => False
def isaStr (m : M) (k : Bool → Prop) : Prop := match m with
  | .v .non => k false
  | .v (.bl _) => k false
  | .v (.int _) => k false
  | .v (.str _) => k true
  | .v (.tup _) => k false
  | .v (.lst _) => k false
  | .v (.dK _ _) => k false
  | .v (.dT _ _) => k false
  | .ml _ => k false
  | .mk _ _ => k false
  | .mt _ _ => k false
  | _ => False
def isaList (m : M) (k : Bool → Prop) : Prop := match m with
  | .v .non => k false
  | .v (.bl _) => k false
  | .v (.int _) => k false
  | .v (.str _) => k false
  | .v (.tup _) => k false
  | .v (.lst _) => k true
  | .v (.dK _ _) => k false
  | .v (.dT _ _) => k false
  | .ml _ => k true
  | .mk _ _ => k false
  | .mt _ _ => k false
  | _ => False
def isaTuple (m : M) (k : Bool → Prop) : Prop := match m with
  | .v .non => k false
  | .v (.bl _) => k false
  | .v (.int _) => k false
  | .v (.str _) => k false
  | .v (.tup _) => k true
  | .v (.lst _) => k false
  | .v (.dK _ _) => k false
  | .v (.dT _ _) => k false
  | .ml _ => k false
  | .mk _ _ => k false
  | .mt _ _ => k false
  | _ => False
structure IsA (T : String) (f : M → (Bool → Prop) → Prop) : Prop where
  ok : ∀ (m : M) (k : Bool → Prop), f m k → ∃ U b, tyM m = some U ∧ kitB U T = some b ∧ k b
theorem isa_of {T : String} {f : M → (Bool → Prop) → Prop} {t : String → Bool} (h : ∀ m k, f m k → isaB t m k) (h1 : kitB "NoneType" T = some (t "NoneType")) (h2 : kitB "bool" T = some (t "bool")) (h3 : kitB "int" T = some (t "int")) (h4 : kitB "str" T = some (t "str"))
    (h5 : kitB "tuple" T = some (t "tuple")) (h6 : kitB "list" T = some (t "list")) (h7 : kitB "dict" T = some (t "dict")) : IsA T f := ⟨fun m k z => by
  have z := h m k z
  unfold isaB at z
  split at z
  · exact ⟨_, _, rfl, h1, z⟩
  · exact ⟨_, _, rfl, h2, z⟩
  · exact ⟨_, _, rfl, h3, z⟩
  · exact ⟨_, _, rfl, h4, z⟩
  · exact ⟨_, _, rfl, h5, z⟩
  · exact ⟨_, _, rfl, h6, z⟩
  · exact ⟨_, _, rfl, h7, z⟩
  · exact ⟨_, _, rfl, h7, z⟩
  · exact ⟨_, _, rfl, h6, z⟩
  · exact ⟨_, _, rfl, h7, z⟩
  · exact ⟨_, _, rfl, h7, z⟩
  · exact z.elim⟩
theorem isa_bool : IsA "bool" isaBool := isa_of (t := fun U => U == "bool") (fun m k z => by unfold isaBool at z; unfold isaB; split at z <;> first | exact z | exact z.elim) (by decide +kernel) (by decide +kernel) (by decide +kernel) (by decide +kernel) (by decide +kernel) (by decide +kernel) (by decide +kernel)
theorem isa_int : IsA "int" isaInt := isa_of (t := fun U => U == "int" || U == "bool") (fun m k z => by unfold isaInt at z; unfold isaB; split at z <;> first | exact z | exact z.elim) (by decide +kernel) (by decide +kernel) (by decide +kernel) (by decide +kernel) (by decide +kernel) (by decide +kernel) (by decide +kernel)
theorem isa_str : IsA "str" isaStr := isa_of (t := fun U => U == "str") (fun m k z => by unfold isaStr at z; unfold isaB; split at z <;> first | exact z | exact z.elim) (by decide +kernel) (by decide +kernel) (by decide +kernel) (by decide +kernel) (by decide +kernel) (by decide +kernel) (by decide +kernel)
theorem isa_list : IsA "list" isaList := isa_of (t := fun U => U == "list") (fun m k z => by unfold isaList at z; unfold isaB; split at z <;> first | exact z | exact z.elim) (by decide +kernel) (by decide +kernel) (by decide +kernel) (by decide +kernel) (by decide +kernel) (by decide +kernel) (by decide +kernel)
theorem isa_tuple : IsA "tuple" isaTuple := isa_of (t := fun U => U == "tuple") (fun m k z => by unfold isaTuple at z; unfold isaB; split at z <;> first | exact z | exact z.elim) (by decide +kernel) (by decide +kernel) (by decide +kernel) (by decide +kernel) (by decide +kernel) (by decide +kernel) (by decide +kernel)
def fIsa (f : M → (Bool → Prop) → Prop) (fo : FO) : FE := fun S R XR => fo S (fun a S1 => f (arD a S1) fun b => R (.v (.bl b)) S1) XR
section
variable {X : Cx} {W : WX}
/-- what an operand holds -/
theorem RS.opd {K : PySem.W.Frag} {H : Hp} {σ : L2.St} {S : List M} {a : Ar} {v : V} {G : List Pr} (l : σ.length = S.length) (ok : ArOk σ a v) (rs : RS K H ((some v, arM a) :: (G ++ σ.zip S))) (hn : arD a S ≠ .gone) : ∃ L, RS K H ((some v, arD a S) :: L) := by
  cases a with
  | m m => exact ⟨_, rs⟩
  | f _ _ _ m => exact ⟨_, rs⟩
  | n i =>
    unfold arD at hn ⊢
    simp only at hn ⊢
    cases e : S[i]? with
    | none => rw [e] at hn; exact absurd rfl hn
    | some m =>
      obtain ⟨x, e1, r1⟩ := RS.take rs.drop l e
      have e2 : σ[i]? = some (some v) := ok
      rw [e2] at e1
      cases e1
      exact ⟨_, r1⟩
theorem tyM_ng {m : M} {U : String} (h : tyM m = some U) : m ≠ .gone := fun z => by subst z; cases h
theorem de_isa {T : String} {f : M → (Bool → Prop) → Prop} {e : Expr} {fo : FO} {t : Str} {p pt pos : Pos} (hf : IsA T f) (hg : Gl X "isinstance") (hm : X.mg "isinstance" = none) (ho : DO X W e fo) (hgt : Gl X t) (hmt : X.mg t = none) (hvt : bootBuiltins t = some (.type T))
    (hn : t ≠ "__name__" := by decide) (hd : (t == ("__debug__" : Str)) = false := by decide) (hv : bootBuiltins "isinstance" = some (.builtin "isinstance") := by decide +kernel)
    (he : starEach [e, .Name t pt] X.env = (false, eval e X.env) :: starEach [.Name t pt] X.env := by rfl) (hpl : (backTo pos (starEach [.Name t pt] X.env)).any (·.1) = false := by rfl) (he2 : starEach [.Name t pt] X.env = (false, eval (.Name t pt) X.env) :: starEach [] X.env := by rfl) :
    DE X W (.Call (.Name "isinstance" p) [e, .Name t pt] [] pos) (fIsa f fo) :=
  ⟨pe_le (pe_callB call_isi hg hm hv (pa_cons ho.pe (pa_cons (pe_bltn (v := .ty T) hgt hmt hvt rfl hn hd) pa_nil he2) he) (by decide) (by decide) he hpl) fun σ H Q h => by
    obtain ⟨G, S, R, XR, l, rs, hF, hQ, hX⟩ := h
    refine ⟨G, S, _, XR, l, rs, hF, fun a S1 v H1 l1 h1 ok1 rs1 => ?_, hX⟩
    obtain ⟨U, b, h2, h3, h4⟩ := hf.ok _ _ h1
    obtain ⟨L, rs2⟩ := RS.opd l1 ok1 rs1 (tyM_ng h2)
    obtain ⟨O, f1, n, hm, r⟩ := RS.one rs2
    exact ⟨v, .ty T, .type U, .type T, b, rfl, .ty T, tyX_of hm h2, kit_ty h3, hQ _ S1 _ H1 l1 h4 (rs1.drop.bl _)⟩⟩
end
/-- a list or tuple of any standing -/
theorem sqV_cases {x : M} {ds : List D} (h : sqV x = some ds) : x = .v (.tup ds) ∨ x = .v (.lst ds) ∨ x = .ml ds := by
  unfold sqV at h
  split at h
  · cases h; exact .inr (.inl rfl)
  · cases h; exact .inl rfl
  · cases h; exact .inr (.inr rfl)
  · cases h
end DM

/-! Own classes: fields, instances made, methods. -/
namespace DM
open PySem PySem.Spec PyProof.Rows
open L2
variable [Tabs]

/-! ### fields read -/
def luD (f : Str) : List Str → List D → (D → Prop) → Prop
  | n :: ns, d :: ds, k => match f == n with
    | true => k d
    | false => luD f ns ds k
  | _, _, _ => False
def asV (m : M) (k : D → Prop) : Prop := match m with
  | .v d => k d
  | _ => False
def luM (f : Str) : List Str → List M → (D → Prop) → Prop
  | n :: ns, m :: ms, k => match f == n with
    | true => asV m k
    | false => luM f ns ms k
  | _, _, _ => False
theorem luD_t {f n : Str} {ns : List Str} {d : D} {ds : List D} {k : D → Prop} (q : (f == n) = true) : luD f (n :: ns) (d :: ds) k = k d := by
  simp only [luD, q]
theorem luD_f {f n : Str} {ns : List Str} {d : D} {ds : List D} {k : D → Prop} (q : (f == n) = false) : luD f (n :: ns) (d :: ds) k = luD f ns ds k := by
  simp only [luD, q]
theorem luM_t {f n : Str} {ns : List Str} {d : M} {ds : List M} {k : D → Prop} (q : (f == n) = true) : luM f (n :: ns) (d :: ds) k = asV d k := by
  simp only [luM, q]
theorem luM_f {f n : Str} {ns : List Str} {d : M} {ds : List M} {k : D → Prop} (q : (f == n) = false) : luM f (n :: ns) (d :: ds) k = luM f ns ds k := by
  simp only [luM, q]
def fldB (C : Addr) (f : Str) : BM := fun ms R => match ms with
  | [.v (.obj C' ns ds)] => C' = C ∧ luD f ns ds fun d => R (.v d) [.v (.obj C' ns ds)]
  | [.mo C' ns xs] => C' = C ∧ luM f ns xs fun d => R (.v d) [.mo C' ns xs]
  | _ => False
section
variable {K : PySem.W.Frag} {H : Hp} {O : List Addr}
theorem luD_get {f : Str} : ∀ {fs : List (Str × V)} {ns : List Str} {ds : List D} {k : D → Prop}, luD f ns ds k → fs.map Prod.fst = ns → RDs K H O (fs.map Prod.snd) ds → ∃ v d, fs.lookup f = some v ∧ RD K H O v d ∧ k d
  | [], _, _, _, h, e, r => by
    cases e
    exact h.elim
  | (g, x) :: fs, _, _, _, h, e, r => by
    cases e
    cases r with
    | cons h1 r1 =>
      cases q : f == g with
      | true =>
        have h := Eq.mp (luD_t q) h
        refine ⟨_, _, ?_, h1, h⟩
        rw [List.lookup_cons, q]
      | false =>
        have h := Eq.mp (luD_f q) h
        obtain ⟨v, d, a, b, c⟩ := luD_get h rfl r1
        refine ⟨v, d, ?_, b, c⟩
        rw [List.lookup_cons, q]
        exact a
theorem luM_get {f : Str} : ∀ {fs : List (Str × V)} {ns : List Str} {ms : List M} {k : D → Prop} {fp : List Addr}, luM f ns ms k → fs.map Prod.fst = ns → RL K H O ((fs.map fun p => some p.2).zip ms) fp → ∃ v d, fs.lookup f = some v ∧ RD K H O v d ∧ k d
  | [], _, _, _, _, h, e, r => by
    cases e
    exact h.elim
  | (g, x) :: fs, _, [], _, _, h, e, r => by
    cases e
    exact h.elim
  | (g, x) :: fs, _, m :: ms, _, _, h, e, r => by
    cases e
    cases r with
    | cons h1 r1 =>
      cases q : f == g with
      | true =>
        have h := Eq.mp (luM_t q) h
        unfold asV at h
        cases m with
        | v d =>
          cases h1 with
          | v h1 =>
            refine ⟨_, _, ?_, h1, h⟩
            rw [List.lookup_cons, q]
        | _ => exact h.elim
      | false =>
        have h := Eq.mp (luM_f q) h
        obtain ⟨v, d, a, b, c⟩ := luM_get h rfl r1
        refine ⟨v, d, ?_, b, c⟩
        rw [List.lookup_cons, q]
        exact a
end
section
variable {X : Cx} {W : WX}
theorem tDO_mono {F : FO} {K : PySem.W.Frag} {σ : L2.St} {H : Hp} {Q Q' : VK} (h : tDO K W F σ H Q) (k : ∀ v H', Q v H' → Q' v H') : tDO K W F σ H Q' := by
  obtain ⟨G, S, R, XR, l, rs, hF, hQ, hX⟩ := h
  exact ⟨G, S, R, XR, l, rs, hF, fun a S' v H' l' r ok rs' => k _ _ (hQ a S' v H' l' r ok rs'), hX⟩
theorem rB_fld {K : PySem.W.Frag} {C : Addr} {f : Str} {x : V} {H : Hp} {Q : VK} (h : r1B K (fldB C f) x H Q) : ∃ a dx fs v, x = .ref a ∧ H a = some (.ins C dx fs) ∧ fs.lookup f = some v ∧ Q v H := by
  obtain ⟨L, ms, R, l, rs, hb, hQ⟩ := h
  unfold fldB at hb
  split at hb
  · rename_i C' ns ds
    obtain ⟨rfl, hb⟩ := hb
    obtain ⟨O, f1, n, h1, r⟩ := RS.one rs
    cases h1 with
    | v h1 =>
      cases h1 with
      | obj no hH e rd =>
        obtain ⟨v, d, e1, r1, k⟩ := luD_get hb e rd
        exact ⟨_, _, _, v, rfl, hH, e1, hQ _ _ _ _ k ⟨O, n, .cons (fp := []) (.v r1) r⟩⟩
  · rename_i C' ns xs
    obtain ⟨rfl, hb⟩ := hb
    obtain ⟨O, f1, n, h1, r⟩ := RS.one rs
    cases h1 with
    | mo hH e le rl =>
      obtain ⟨v, d, e1, r1, k⟩ := luM_get hb e rl
      exact ⟨_, _, _, v, rfl, hH, e1, hQ _ _ _ _ k ⟨O, n, .cons (fp := []) (.v r1) r⟩⟩
  · exact hb.elim
theorem de_fld {C : Addr} {f : Str} {o : Expr} {fo : FO} {pos : Pos} (ho : DO X W o fo) (c : Cls X.K C) (n : NoAttr X.K C f) (hb : attributeBase o f X.env (eval o X.env) = eval o X.env := by rfl) : DE X W (.Attribute o f pos) (f1 (fldB C f) fo) :=
  ⟨pe_le (pe_fld ho.pe hb) fun σ H Q h => tDO_mono (tD_f1 h) fun v H' q => by
    obtain ⟨a, dx, fs, w, e1, e2, e3, q⟩ := rB_fld q
    exact ⟨a, C, dx, fs, w, e1, e2, c, n, e3, q⟩⟩

/-! ### fields stored -/
def putMK (f : Str) (y : M) : List Str → List M → (List Str → List M → Prop) → Prop
  | [], _, k => k [f] [y]
  | n :: ns, x :: ms, k => match decide (n = f) with
    | true => k (n :: ns) (y :: ms)
    | false => putMK f y ns ms fun ns' ms' => k (n :: ns') (x :: ms')
  | _ :: _, [], _ => False
theorem putMK_t {f n : Str} {ns : List Str} {x y : M} {ms : List M} {k : List Str → List M → Prop} (q : n = f) : putMK f y (n :: ns) (x :: ms) k = k (n :: ns) (y :: ms) := by
  simp only [putMK, decide_eq_true q]
theorem putMK_f {f n : Str} {ns : List Str} {x y : M} {ms : List M} {k : List Str → List M → Prop} (q : ¬ n = f) : putMK f y (n :: ns) (x :: ms) k = putMK f y ns ms fun ns' ms' => k (n :: ns') (x :: ms') := by
  simp only [putMK, decide_eq_false q]
theorem putMK_get {K : PySem.W.Frag} {H : Hp} {O : List Addr} {f : Str} {y : M} {v : V} {fy : List Addr} (hy : RM K H O (some v) y fy) : ∀ {fs : List (Str × V)} {ns : List Str} {ms : List M} {k : List Str → List M → Prop} {fp : List Addr}, putMK f y ns ms k → fs.map Prod.fst = ns → fs.length = ms.length → RL K H O ((fs.map fun p => some p.2).zip ms) fp →
    ∃ ns' ms' fp' z, k ns' ms' ∧ (putF f v fs).map Prod.fst = ns' ∧ (putF f v fs).length = ms'.length ∧ RL K H O (((putF f v fs).map fun p => some p.2).zip ms') fp' ∧ (fp' ++ z).Perm (fp ++ fy)
  | [], _, [], k, _, h, e, l, r => by
    cases e
    cases r
    refine ⟨[f], [y], fy ++ [], [], h, rfl, rfl, .cons hy (.nil ‹_›), ?_⟩
    simp
  | [], _, _ :: _, _, _, _, _, l, _ => by cases l
  | (g, x) :: fs, _, [], _, _, _, _, l, _ => by cases l
  | (g, x) :: fs, _, m :: ms, k, _, h, e, l, r => by
    cases e
    cases r with
    | @cons _ _ _ fm fr h1 r1 =>
      by_cases q : g = f
      · have h := Eq.mp (putMK_t q) h
        have e1 : putF f v ((g, x) :: fs) = (g, v) :: fs := by
          show (if g = f then _ else _) = _
          rw [if_pos q]
        rw [e1]
        refine ⟨_, _, fy ++ fr, fm, h, rfl, l, .cons hy r1, ?_⟩
        have p1 : (fy ++ fr ++ fm).Perm (fm ++ (fy ++ fr)) := List.perm_append_comm
        have p2 : (fm ++ (fy ++ fr)).Perm (fm ++ (fr ++ fy)) := List.Perm.append_left _ List.perm_append_comm
        rw [List.append_assoc fm fr fy]
        exact p1.trans p2
      · have h := Eq.mp (putMK_f q) h
        have e1 : putF f v ((g, x) :: fs) = (g, x) :: putF f v fs := by
          show (if g = f then _ else _) = _
          rw [if_neg q]
        rw [e1]
        obtain ⟨ns', ms', fp', z, k1, k2, k3, k4, k5⟩ := putMK_get hy h rfl (Nat.succ.inj l) r1
        refine ⟨_, _, fm ++ fp', z, k1, by rw [List.map_cons, k2], congrArg (· + 1) k3, .cons h1 k4, ?_⟩
        rw [List.append_assoc, List.append_assoc]
        exact List.Perm.append_left _ k5
theorem RS.putFld {K : PySem.W.Frag} {H : Hp} {C : Addr} {f : Str} {ns : List Str} {xs : List M} {x v : V} {y : M} {L : List Pr} {k : List Str → List M → Prop} (rs : RS K H ((some x, .mo C ns xs) :: (some v, y) :: L)) (h : putMK f y ns xs k) :
    ∃ a dx fs, x = .ref a ∧ H a = some (.ins C dx fs) ∧ fs.length = ns.length ∧ ∃ ns' xs', k ns' xs' ∧ RS K (upd H a (.ins C dx (putF f v fs))) ((some (.ref a), .mo C ns' xs') :: L) := by
  obtain ⟨fp0, f2, n, r, q⟩ := rs.opn
  cases r with
  | @mo a _ dx fs _ _ fp hH e le rl =>
    cases q with
    | @cons _ _ _ fy fL hy q =>
      obtain ⟨ns', xs', fp', z, k1, k2, k3, k4, k5⟩ := putMK_get hy h e le rl
      refine ⟨a, dx, fs, rfl, hH, by rw [← e, List.length_map], ns', xs', k1, ?_⟩
      have n0 : (a :: (fp ++ fy ++ fL)).Nodup := by
        rw [List.append_assoc]
        exact n
      have p1 : (a :: (fp ++ fy ++ fL)).Perm (z ++ ((a :: fp') ++ fL)) := by
        have p2 : (a :: (fp ++ fy ++ fL)).Perm (a :: (fp' ++ z ++ fL)) := List.Perm.cons _ (List.Perm.append_right _ k5.symm)
        refine p2.trans ?_
        have p3 : (a :: (fp' ++ z ++ fL)) = (a :: fp') ++ (z ++ fL) := by simp
        rw [p3]
        have p4 : ((a :: fp') ++ (z ++ fL)).Perm (z ++ (a :: fp' ++ fL)) := by
          rw [← List.append_assoc, ← List.append_assoc]
          exact List.Perm.append_right _ List.perm_append_comm
        exact p4
      have n1 := p1.nodup n0
      have n2 : ((a :: fp') ++ fL).Nodup := (List.nodup_append.mp n1).2.1
      have sub : ∀ b, b ∈ (a :: fp') ++ fL → b ∈ (a :: fp) ++ (fy ++ fL) := fun b hb => by
        have := p1.symm.mem_iff.mp (List.mem_append_right z hb)
        rw [List.append_assoc] at this
        exact this
      have st : Stp H (upd H a (.ins C dx (putF f v fs))) ((a :: fp) ++ (fy ++ fL)) ((a :: fp') ++ fL) := stp_put (by simp) sub
      have d := List.nodup_append.mp n2
      have na : a ∉ fp' := (List.nodup_cons.mp d.1).1
      refine RS.cls (fp := a :: fp') n2 (.mo upd_same k2 k3 (k4.step st fun b hb o ho => ?_)) (q.step st fun b hb o ho => ?_)
      · rw [upd_ne fun e1 => na (by rw [← e1]; exact hb)]
        exact ho
      · rw [upd_ne fun e1 => d.2.2 a (by simp) b hb e1.symm]
        exact ho
def setFB (C : Addr) (f : Str) : BM := fun ms R => match ms with
  | [.mo C' ns xs, y] => C' = C ∧ ns.length < 1000 ∧ putMK f y ns xs fun ns' xs' => R (.v .non) [.mo C' ns' xs', .gone]
  | _ => False
def sFldS (C : Addr) (f : Str) (fo : FO) (F : FE) : FS := fun E S => F S (fun m S1 => fo S1 (fun a S2 => callB (setFB C f) [a, .m m] S2 fun _ S3 => E.nx S3) E.ex) E.ex
theorem rB_setF {K : PySem.W.Frag} {C : Addr} {f : Str} {x v : V} {H : Hp} {Q : Hp → Prop} (h : rB K (setFB C f) [x, v] H fun _ H' => Q H') : ∃ a dx fs, x = .ref a ∧ H a = some (.ins C dx fs) ∧ fs.length < 1000 ∧ Q (upd H a (.ins C dx (putF f v fs))) := by
  obtain ⟨L, ms, R, l, rs, hb, hQ⟩ := h
  unfold setFB at hb
  split at hb
  · rename_i C' ns xs y
    obtain ⟨rfl, hl, hb⟩ := hb
    obtain ⟨a, dx, fs, e1, e2, e3, ns', xs', k, rs'⟩ := RS.putFld rs hb
    subst e1
    refine ⟨a, dx, fs, rfl, e2, by rw [e3]; exact hl, hQ _ _ .non _ k ?_⟩
    have rs2 : RS K (upd H a (.ins C' dx (putF f v fs))) ((some (.ref a), .mo C' ns' xs') :: (some v, .gone) :: L) := (rs'.add0 (some v)).swap
    exact rs2.val fun _ => .non
  · exact hb.elim
variable {mask : List Bool}
theorem ds_fld {C : Addr} {f : Str} {o e : Expr} {fo : FO} {F : FE} {pos pos' : Pos} (ho : DO X W o fo) (he : DE X W e F) (c : Cls X.K C) (n : NoAttr X.K C f) (hs : swapsWith e (some (.Attribute o f pos')) pos.line X.env = pure false := by rfl) : DS X W mask (.Assign [.Attribute o f pos'] e pos) (sFldS C f fo F) :=
  ⟨ps_le (ps_fld ho.pe he.pe hs) fun D σ H h => by
    obtain ⟨G, S, E, l, rs, hF, nx, rt, bk, ct, ex⟩ := h
    refine ⟨G, S, _, E.ex, l, rs, hF, fun m S1 v H1 l1 h1 rs1 => ?_, fun c fs S' d H' l' hx xo => ex c fs S' d σ H' (Ag.refl σ) l' hx xo⟩
    refine ⟨(some v, m) :: G, S1, _, E.ex, l1, rs1, h1, fun a S2 x H2 l2 h2 ok2 rs2 => ?_, fun c fs S' d H' l' hx xo => ex c fs S' d σ H' (Ag.refl σ) l' hx xo.drop⟩
    have q : rB X.K (setFB C f) [x, v] H2 fun _ H' => D.nx σ H' := rB_of (as := [a, .m m]) (vs := [x, v]) l2 ⟨ok2, trivial, trivial⟩ rs2 h2 fun r S3 w H3 l3 h3 rs3 => nx _ _ _ (Ag.refl σ) l3 h3 rs3.drop
    obtain ⟨a', dx, fs, e1, e2, e3, q⟩ := rB_setF q
    exact ⟨a', C, dx, fs, e1, e2, c, n, e3, q⟩⟩
end
end DM

/-! Own classes: instances made, methods called; what is raised is wished for at the caller's slots. -/
namespace DM
open PySem PySem.Spec PyProof.Rows
open L2
variable [Tabs]
section
variable {X : Cx} {W : WX} {CX : CXT} {k : Nat} {f C : Addr} {fd : FuncData} {ps : List Str} {sp : Sp} {E : L2.St → XK} {x mn : Str} {p pos apos : Pos} {e o : Expr} {es : List Expr} {ta : TE} {t : TA}
/-- C(e, ..) -/
def tMkS (C : Addr) (sp : Sp) (E : L2.St → XK) (t : TA) : TE := fun σ H Q => t σ H fun vs H1 => ∀ a da, H1 a = none → H1 da = none → da ≠ a →
  sp (.ref a :: vs) (upd (upd H1 da (.own a)) a (.ins C da [])) (fun v H2 => v = .non ∧ Q (.ref a) H2) (E σ)
theorem binds0 {K : PySem.W.Frag} {fd : FuncData} {ps : List Str} {s : Shared} {us : List Value} (hb : Binds K fd ps []) (h : K.In s.heap) (hl : us.length = ps.length) : BindsTo s fd ⟨us, []⟩ (ps.zip us) := by
  have q := hb s us h (by rw [List.append_nil]; exact hl)
  rw [List.append_nil] at q
  exact q
theorem run_mkS {pins : List (Addr × Obj)} {σ : L2.St} {H : Hp} {s : Shared} {Q : VK} {us : List Value} {vs : List V} (M : Mk X.K C f) (F : FnOk X.prog X.w X.K X.mg X.base CX k f fd ps sp)
    (hr : Room (k + 1) X.A) (hb : Binds X.K fd ps []) (hx : PassesAt CX X σ (E σ)) (I : Inv X pins σ H s) (r : Vals vs us)
    (h : ∀ a da, H a = none → H da = none → da ≠ a → sp (.ref a :: vs) (upd (upd H da (.own a)) a (.ins C da [])) (fun v H2 => v = .non ∧ Q (.ref a) H2) (E σ)) :
    wpAny (model X.prog X.w) X.A (call (.ref C) us) (EP X pins σ Q) X.xe s := by
  have g := h (s.heap.objs.size + 1) s.heap.objs.size (I.hok.fresh (Nat.le_succ _)) (I.hok.fresh (Nat.le_refl _)) (Nat.ne_of_lt (Nat.lt_succ_self _))
  have J := Inv.made (C := C) I
  have r2 : Vals (V.ref (s.heap.objs.size + 1) :: vs) (Value.ref (s.heap.objs.size + 1) :: us) := .cons rfl r
  have hl : (Value.ref (s.heap.objs.size + 1) :: us).length = ps.length := r2.length.symm.trans (F.len _ _ _ _ g)
  have rm := hr.make C us []
  have ev := J.env0.make C us []
  refine wpAny_call (make_map (f := f) I.kIn M.makes M.init (beq_iff_eq.mp M.fn) ?_)
  refine codeAny_mono (F.run _ X.stack _ _ ⟨Value.ref (s.heap.objs.size + 1) :: us, []⟩ (Value.ref (s.heap.objs.size + 1) :: us) _ _ (E σ) rm ev (binds0 hb J.kIn hl) r2 g) fun res s' hq' => ?_
  cases res with
  | error z => exact hx pins _ _ z s' J hq'
  | ok fl =>
    cases fl with
    | next => exact hq'.elim
    | brk => exact hq'.elim
    | cont => exact hq'.elim
    | ret u =>
      obtain ⟨v, H', I3, rv, ev, q3⟩ := J.after hq'
      cases ev
      exact ⟨rv, V.ref (s.heap.objs.size + 1), H', I3, rfl, q3⟩
theorem pe_mkS (M : Mk X.K C f) (F : FnOk X.prog X.w X.K X.mg X.base CX k f fd ps sp) (hr : Room (k + 1) X.A) (hg : Gl X x) (hm : X.mg x = some (.ref C)) (hb : Binds X.K fd ps []) (hx : ∀ σ, PassesAt CX X σ (E σ)) (ha : PA X (e :: es) t)
    (hdb : (x == ("__debug__" : Str)) = false := by decide) (he : starEach (e :: es) X.env = (false, eval e X.env) :: starEach es X.env := by rfl) (hpl : (backTo pos (starEach es X.env)).any (·.1) = false := by rfl) : PE X (.Call (.Name x p) (e :: es) [] pos) (tMkS C sp E t) :=
  ⟨fun pins s σ H Q I h => wpAny_Call_Name_kw (ld_glob I hg hm (PySem.W.callWith_K (h₀ := X.base) I.ok.mod.kin M.kp (thn (ha.run pos pins s σ H _ I h) fun us s1 z => by
    obtain ⟨vs, H1, I1, r, q⟩ := z
    exact ⟨I1.kIn, run_mkS M F hr hb (hx σ) I1 r q⟩) he hpl) hdb)⟩
/-- o.m(e, ..) -/
def tMtS (C : Addr) (mn : Str) (sp : Sp) (E : L2.St → XK) (ta : TE) (t : TA) : TE := fun σ H Q => ta σ H fun x H1 => ∃ a dx fs, x = .ref a ∧ H1 a = some (.ins C dx fs) ∧ fs.lookup mn = none ∧ t σ H1 fun vs H2 => sp (x :: vs) H2 Q (E σ)
theorem pe_mtS {pl : Sem Bool} (he : PE X o ta) (c : Cls X.K C) (hm : Meth X.K C mn f) (F : FnOk X.prog X.w X.K X.mg X.base CX k f fd ps sp) (hr : Room k X.A) (hb : Binds X.K fd ps []) (hx : ∀ σ, PassesAt CX X σ (E σ)) (ha : PA X (e :: es) t)
    (hst : starEach (e :: es) X.env = (false, eval e X.env) :: starEach es X.env := by rfl)
    (hpl : (backTo pos (starEach es X.env)).any (·.1) = false := by rfl)
    (ht : eval (.Call (.Attribute o mn apos) (e :: es) [] pos) X.env = (do
      let ov ← eval o X.env
      standAt apos.atName
      let (fv, first) ← holding [ov] (getMethod ov mn pl)
      callWith pos fv first (backTo pos (starEach (e :: es) X.env)) (backToKw pos (keywordEach [] X.env))) := by rfl) : PE X (.Call (.Attribute o mn apos) (e :: es) [] pos) (tMtS C mn sp E ta t) := by
  constructor
  intro pins s σ H Q I h
  refine PySem.W.methodCall_KW (pl := pl) (thn (he.run pins s σ H _ I h) fun u s1 z => ?_) ht
  obtain ⟨x, H1, I1, rx, a, dx, fs, rfl, ea, l, q⟩ := z
  cases (show u = Value.ref a from rx)
  refine getmeth_ok I1 ea c hm l (PySem.W.callWith_K (first := [.ref a]) (h₀ := X.base) I1.ok.mod.kin hm.kp (thn (ha.run pos pins s1 σ H1 _ I1 q) fun us s2 z2 => ?_) hst hpl)
  obtain ⟨vs, H2, I2, r, q2⟩ := z2
  exact ⟨I2.kIn, run_fnS (us := .ref a :: us) (vs := .ref a :: vs) F hr hb (hx σ) I2 (.cons rfl r) q2⟩
theorem pe_mtS0 {pl : Sem Bool} (he : PE X o ta) (c : Cls X.K C) (hm : Meth X.K C mn f) (F : FnOk X.prog X.w X.K X.mg X.base CX k f fd ps sp) (hr : Room k X.A) (hb : Binds X.K fd ps []) (hx : ∀ σ, PassesAt CX X σ (E σ))
    (ht : eval (.Call (.Attribute o mn apos) [] [] pos) X.env = (do
      let ov ← eval o X.env
      standAt apos.atName
      let (fv, first) ← holding [ov] (getMethod ov mn pl)
      callWith pos fv first (backTo pos (starEach [] X.env)) (backToKw pos (keywordEach [] X.env))) := by rfl) : PE X (.Call (.Attribute o mn apos) [] [] pos) (tMtS C mn sp E ta tNil) := by
  constructor
  intro pins s σ H Q I h
  refine PySem.W.methodCall_KW (pl := pl) (thn (he.run pins s σ H _ I h) fun u s1 z => ?_) ht
  obtain ⟨x, H1, I1, rx, a, dx, fs, rfl, ea, l, q⟩ := z
  cases (show u = Value.ref a from rx)
  exact getmeth_ok I1 ea c hm l (PySem.W.callWith_K0 (first := [.ref a]) I1.kIn hm.kp (run_fnS (us := [.ref a]) (vs := [.ref a]) F hr hb (hx σ) I1 (.cons rfl .nil) q))
/-! ### read over data -/
theorem RS.newObj {K : PySem.W.Frag} {H : Hp} {L : List Pr} {C a da : Addr} (h : RS K H L) (ha : H a = none) (hd : H da = none) (ne : da ≠ a) : RS K (upd (upd H da (.own a)) a (.ins C da [])) ((some (.ref a), .mo C [] []) :: L) := by
  have h1 : RS K (upd H da (.own a)) L := h.ext fun b u e => by
    rw [upd_ne (ne_of_none e hd)]
    exact e
  obtain ⟨O, n, r⟩ := h1
  have ha1 : upd H da (.own a) a = none := by
    rw [upd_ne (fun z => ne z.symm)]
    exact ha
  have np := r.notnew ha1
  exact ⟨a :: O, List.nodup_cons.mpr ⟨np, n⟩, .cons (fp := [a]) (.mo upd_same rfl rfl (.nil (r.newO ha1 (o := .ins C da []) fun b z => (List.mem_cons.mp z).symm).tabs)) (r.newO ha1 fun b z => (List.mem_cons.mp z).symm)⟩
/-- what an __init__ leaves: None, the instance, the arguments -/
def mkR (as : List Ar) (S : List M) (R : RMx) : RMx := fun r ms => match r, ms with
  | .v .non, m :: ms => giveK as ms S fun S' => R m S'
  | _, _ => False
def mkX (as : List Ar) (S : List M) (XR : XM) : XM := fun z ms => match ms with
  | _ :: ms => giveK as ms S fun S' => XR z S'
  | [] => False
def fMk (C : Addr) (m : FM) (n : Nat) (fs : FOs) : FE := fun S R XR => fs S (fun as S1 => chk (Nat.beq (as.length + 1) n) (takeK as S1 fun ms S2 => m (.mo C [] [] :: ms) (mkR as S2 R) (mkX as S2 XR))) XR
theorem de_mk {n : Nat} {m : FM} {fs : FOs} (M : Mk X.K C f) (F : FnOk X.prog X.w X.K X.mg X.base (L2.CX X.prog X.w) k f fd ps (spOf X.K n m)) (tk : Takes X W) (hr : Room (k + 1) X.A) (hg : Gl X x) (hm : X.mg x = some (.ref C)) (hb : Binds X.K fd ps []) (ha : DOs X W (e :: es) fs)
    (hdb : (x == ("__debug__" : Str)) = false := by decide) (he : starEach (e :: es) X.env = (false, eval e X.env) :: starEach es X.env := by rfl) (hpl : (backTo pos (starEach es X.env)).any (·.1) = false := by rfl) : DE X W (.Call (.Name x p) (e :: es) [] pos) (fMk C m n fs) :=
  ⟨pe_le (pe_mkS M F hr hg hm hb (fun σ => passAt tk σ) ha.pa hdb he hpl) fun σ H Q h => by
    obtain ⟨G, S, R, XR, l, rs, hF, hQ, hX⟩ := h
    refine ⟨G, S, _, XR, l, rs, hF, fun as S1 vs H1 l1 h1 ok1 rs1 => ?_, hX⟩
    have h1 := h1.ok
    have en := Nat.eq_of_beq_eq_true h1.1
    have hk := h1.2
    rw [takeK_eq] at hk
    intro a da ha hda ne
    have tk1 := RS.takeA l1 ok1 rs1
    have tl := takeA_len as S1
    have rs2 := RS.newObj (C := C) tk1 ha hda ne
    refine ⟨?_, G ++ σ.zip (takeA as S1).2, .mo C [] [] :: (takeA as S1).1, _, _, ?_, rs2, hk, fun r ms' v H' hr' hs => ?_, fun c fs ms' d H' hx xo => ?_⟩
    · rw [List.length_cons, ok1.len, en]
    · rw [List.length_cons, tl.1, en]
    · unfold mkR at hr'
      split at hr'
      · rename_i m' ms''
        rw [giveK_eq] at hr'
        have hs1 : RS X.K H' ((some v, .v .non) :: (some (.ref a), m') :: ((vs.map some).zip ms'' ++ (G ++ σ.zip (takeA as S1).2))) := hs
        obtain ⟨O, f1, n1, hn, _⟩ := RS.one hs1
        have e1 := Option.some.inj hn.non
        refine ⟨e1, ?_⟩
        have hs2 : RS X.K H' ((vs.map some).zip ms'' ++ (((some (.ref a), m') :: G) ++ σ.zip (takeA as S1).2)) := RS.perm (perm_mid _ _ _).symm hs1.drop
        exact hQ m' _ _ H' (l1.trans (tl.2.symm.trans (giveA_len _ _ _).symm)) hr' (RS.giveA (l1.trans tl.2.symm) ok1 hs2)
      · exact hr'.elim
    · unfold mkX at hx
      split at hx
      · rename_i m' ms''
        rw [giveK_eq] at hx
        refine hX c fs _ d H' (l1.trans (tl.2.symm.trans (giveA_len _ _ _).symm)) hx (xo.imp fun L1 r => ?_)
        have r1 : RS X.K H' (L1 ++ (some (.ref a), m') :: ((vs.map some).zip ms'' ++ (G ++ σ.zip (takeA as S1).2))) := r
        have r2 := (RS.perm (perm_mid _ _ _) r1).drop
        have r3 : RS X.K H' ((vs.map some).zip ms'' ++ ((L1 ++ G) ++ σ.zip (takeA as S1).2)) := by
          rw [List.append_assoc]
          exact RS.rot r2
        rw [← List.append_assoc]
        exact RS.giveA (l1.trans tl.2.symm) ok1 r3
      · exact hx.elim⟩
/-- an instance of the class, without an attribute of the name -/
def noN (f : Str) : List Str → Bool
  | [] => true
  | n :: ns => match f == n with
    | true => false
    | false => noN f ns
def objP (C : Addr) (f : Str) (m : M) : Prop := match m with
  | .v (.obj C' ns _) => C' = C ∧ noN f ns = true
  | .mo C' ns _ => C' = C ∧ noN f ns = true
  | _ => False
theorem noN_lookup {f : Str} : ∀ {fs : List (Str × V)}, noN f (fs.map Prod.fst) = true → fs.lookup f = none
  | [], _ => rfl
  | (g, x) :: fs, h => by
    rw [List.lookup_cons]
    rw [List.map_cons] at h
    cases q : f == g with
    | true =>
      simp only [noN, q] at h
      cases h
    | false =>
      simp only [noN, q] at h
      exact noN_lookup h
theorem RS.objAt {K : PySem.W.Frag} {H : Hp} {σ : L2.St} {S : List M} {a : Ar} {v : V} {G : List Pr} {f : Str} (l : σ.length = S.length) (ok : ArOk σ a v) (rs : RS K H ((some v, arM a) :: (G ++ σ.zip S))) (h : objP C f (arD a S)) :
    ∃ b dx fs, v = .ref b ∧ H b = some (.ins C dx fs) ∧ fs.lookup f = none := by
  have go : ∀ {L : List Pr} {m : M}, RS K H ((some v, m) :: L) → objP C f m → ∃ b dx fs, v = .ref b ∧ H b = some (.ins C dx fs) ∧ fs.lookup f = none := fun {L m} rs hh => by
    obtain ⟨O, f1, n, hm, r⟩ := RS.one rs
    unfold objP at hh
    split at hh
    · obtain ⟨hc, hh⟩ := hh
      subst hc
      cases hm with
      | v h1 =>
        cases h1 with
        | obj no hH e rd =>
          rw [← e] at hh
          exact ⟨_, _, _, rfl, hH, noN_lookup hh⟩
    · obtain ⟨hc, hh⟩ := hh
      subst hc
      cases hm with
      | mo hH e le rl =>
        rw [← e] at hh
        exact ⟨_, _, _, rfl, hH, noN_lookup hh⟩
    · exact hh.elim
  cases a with
  | m m => exact go rs h
  | f _ _ _ m => exact go rs h
  | n i =>
    unfold arD at h
    simp only at h
    cases e : S[i]? with
    | none => rw [e] at h; exact h.elim
    | some m =>
      rw [e] at h
      obtain ⟨x, e1, r1⟩ := RS.take rs.drop l e
      have e2 : σ[i]? = some (some v) := ok
      rw [e2] at e1
      cases e1
      exact go r1 h
def getD' (a : Ar) (S : List M) (k : M → Prop) : Prop := match a with
  | .m m => k m
  | .n i => getK S i k False
  | .f _ _ _ m => k m
theorem getD'_eq {a : Ar} {S : List M} {k : M → Prop} (h : getD' a S k) : k (arD a S) := by
  cases a with
  | m m => exact h
  | f _ _ _ m => exact h
  | n i =>
    have h : getK S i k False := h
    cases e : S[i]? with
    | none =>
      rw [show getK S i k False = False from getK_none e] at h
      exact h.elim
    | some m =>
      rw [show getK S i k False = k m from getK_some e] at h
      show k (S[i]?.getD .gone)
      rw [e]
      exact h
def fMt (C : Addr) (mn : Str) (m : FM) (n : Nat) (fo : FO) (fs : FOs) : FE := fun S R XR => fo S (fun a S1 => getD' a S1 fun c => objP C mn c ∧ fs S1 (fun as S2 => chk (Nat.beq (as.length + 1) n) (callF m (a :: as) S2 R XR)) XR) XR
theorem de_mt {n : Nat} {m : FM} {fo : FO} {fs : FOs} {pl : Sem Bool} (ho : DO X W o fo) (c : Cls X.K C) (hm : Meth X.K C mn f) (F : FnOk X.prog X.w X.K X.mg X.base (L2.CX X.prog X.w) k f fd ps (spOf X.K n m)) (tk : Takes X W) (hr : Room k X.A) (hb : Binds X.K fd ps []) (ha : DOs X W (e :: es) fs)
    (hst : starEach (e :: es) X.env = (false, eval e X.env) :: starEach es X.env := by rfl)
    (hpl : (backTo pos (starEach es X.env)).any (·.1) = false := by rfl)
    (ht : eval (.Call (.Attribute o mn apos) (e :: es) [] pos) X.env = (do
      let ov ← eval o X.env
      standAt apos.atName
      let (fv, first) ← holding [ov] (getMethod ov mn pl)
      callWith pos fv first (backTo pos (starEach (e :: es) X.env)) (backToKw pos (keywordEach [] X.env))) := by rfl) : DE X W (.Call (.Attribute o mn apos) (e :: es) [] pos) (fMt C mn m n fo fs) :=
  ⟨pe_le (pe_mtS (pl := pl) ho.pe c hm F hr hb (fun σ => passAt tk σ) ha.pa hst hpl ht) fun σ H Q h => by
    obtain ⟨G, S, R, XR, l, rs, hF, hQ, hX⟩ := h
    refine ⟨G, S, _, XR, l, rs, hF, fun a S1 v H1 l1 h1 ok1 rs1 => ?_, hX⟩
    have h1 := getD'_eq h1
    obtain ⟨b, dx, fls, e1, e2, e3⟩ := RS.objAt l1 ok1 rs1 h1.1
    refine ⟨b, dx, fls, e1, e2, e3, ?_⟩
    refine ⟨(some v, arM a) :: G, S1, _, XR, l1, rs1, h1.2, fun as S2 vs H2 l2 h2 ok2 rs2 => ?_, fun c fs S' d H' l' hx xo => hX c fs S' d H' l' hx xo.drop⟩
    have h2 := h2.ok
    have q := spOf_of (W := W) (as := a :: as) (vs := v :: vs) l2 ⟨ok1, ok2⟩ (RS.perm (perm_mid _ _ _) rs2) h2.2 hQ hX
    have en : (a :: as).length = n := Nat.eq_of_beq_eq_true h2.1
    rw [en] at q
    exact q⟩
def fMt0 (C : Addr) (mn : Str) (m : FM) (fo : FO) : FE := fun S R XR => fo S (fun a S1 => getD' a S1 fun c => objP C mn c ∧ callF m [a] S1 R XR) XR
theorem de_mt0 {m : FM} {fo : FO} {pl : Sem Bool} (ho : DO X W o fo) (c : Cls X.K C) (hm : Meth X.K C mn f) (F : FnOk X.prog X.w X.K X.mg X.base (L2.CX X.prog X.w) k f fd ps (spOf X.K 1 m)) (tk : Takes X W) (hr : Room k X.A) (hb : Binds X.K fd ps [])
    (ht : eval (.Call (.Attribute o mn apos) [] [] pos) X.env = (do
      let ov ← eval o X.env
      standAt apos.atName
      let (fv, first) ← holding [ov] (getMethod ov mn pl)
      callWith pos fv first (backTo pos (starEach [] X.env)) (backToKw pos (keywordEach [] X.env))) := by rfl) : DE X W (.Call (.Attribute o mn apos) [] [] pos) (fMt0 C mn m fo) :=
  ⟨pe_le (pe_mtS0 (pl := pl) ho.pe c hm F hr hb (fun σ => passAt tk σ) ht) fun σ H Q h => by
    obtain ⟨G, S, R, XR, l, rs, hF, hQ, hX⟩ := h
    refine ⟨G, S, _, XR, l, rs, hF, fun a S1 v H1 l1 h1 ok1 rs1 => ?_, hX⟩
    have h1 := getD'_eq h1
    obtain ⟨b, dx, fls, e1, e2, e3⟩ := RS.objAt l1 ok1 rs1 h1.1
    refine ⟨b, dx, fls, e1, e2, e3, ?_⟩
    exact spOf_of (W := W) (as := [a]) (vs := [v]) l1 ⟨ok1, trivial⟩ rs1 h1.2 hQ hX⟩
end
end DM

/-! Exceptions: raise, try. -/
namespace DM
open PySem PySem.Spec PyProof.Rows
open L2
variable [Tabs]
section
variable {X : Cx} {W : WX} {mask : List Bool}
def sRaise (c : Value) : FS := fun E S => E.ex (c, none) S
theorem ds_raise {c : Value} {e : Expr} {pos : Pos} (hc : X.calm = true) (tk : Takes X W) (he : PMk X e (fun _ H Q => Q c none H)) : DS X W mask (.Raise (some e) none pos) (sRaise c) := ⟨ps_le (ps_raise hc tk he) fun D σ H h => by
  obtain ⟨G, S, E, l, rs, hF, nx, rt, bk, ct, ex⟩ := h
  exact ex c none S none σ H (Ag.refl σ) l hF rs⟩
/-- what an except clause's class has of the classes raised -/
def exK : List (Value × Bool) → Value → (Bool → Prop) → Prop
  | [], _, _ => False
  | p :: t, x, k => (x = p.1 ∧ k p.2) ∨ exK t x k
theorem exK_get {K : PySem.W.Frag} {c x : Value} {k : Bool → Prop} : ∀ {t : List (Value × Bool)}, (∀ p ∈ t, PySem.W.exmOne K p.1 c = some p.2) → exK t x k → ∃ b, PySem.W.exmOne K x c = some b ∧ k b
  | [], _, h => h.elim
  | p :: t, ht, h => by
    rcases h with ⟨rfl, h⟩ | h
    · exact ⟨p.2, ht p List.mem_cons_self, h⟩
    · exact exK_get (fun q hq => ht q (List.mem_cons_of_mem _ hq)) h
theorem XOk.rs {K : PySem.W.Frag} {H : Hp} {d : Option Addr} {fs : Option (List (Str × D))} {L : List Pr} (h : XOk K H d fs L) : RS K H L := by
  cases fs with
  | none =>
    cases d with
    | none => exact h
    | some d => exact h.elim
  | some fs =>
    cases d with
    | none => exact h.elim
    | some d =>
      obtain ⟨fvs, a, b, c⟩ := h
      exact RS.dropL c
def noX (E : EM) : EM := { E with ex := fun _ _ => False }
/-- try: fb / except c: su -/
def sTry (t : List (Value × Bool)) (fb su : FS) : FS := fun E S => fb { E with ex := fun x S' => exK t x.1 fun b => iteP b (su (noX E) S') (E.ex x S') } S
theorem ds_try {x : Str} {c : Value} {body suite : List Stmt} {b0 : Stmt} {np pos pos' : Pos} {t : List (Value × Bool)} {fb su : FS} (hs : X.stack = X.env :: X.outer) (hf : X.env.frame = some X.env.locals) (hc : Names X x c) (tk : Takes X W) (ht : ∀ p ∈ t, PySem.W.exmOne X.K p.1 c = some p.2)
    (hb : ∀ (W' : WX) (pn : List (Addr × Obj)) (xe : Value → Shared → Prop), Takes (X.tr pn xe) W' → PassesOwn (model X.prog X.w) X.A X.env xe → DSs (X.tr pn xe) W' mask body fb)
    (hsu : ∀ (a : Addr) (oe : Obj) (cls : Value) (d : Option Addr) (pn : List (Addr × Obj)), Zc cls d oe → (∃ vs, oe.data = .fields vs) → DSs (X.suite a ((a, oe) :: pn)) W0 mask (b0 :: suite) su) :
    DS X W mask (.Try body [.ExceptHandler (some (.Name x np)) none (b0 :: suite) pos'] [] [] pos) (sTry t fb su) :=
  ⟨ps_le (ps_try_only (tb := fun W' => tDS X.K W' mask fb) (ts := fun _ _ _ => tDS X.K W0 mask su) hs hf hc tk (fun W' pn xe tk' po => (hb W' pn xe tk' po).ps) (fun a oe cls d pn hz hd => (hsu a oe cls d pn hz hd).ps)) fun D σ H h => by
    obtain ⟨G, S, E, l, rs, hF, nx, rt, bk, ct, ex⟩ := h
    refine ⟨G, S, _, l, rs, hF, nx, rt, bk, ct, fun cl fs S' d σ' H' ag l' hx xo => ?_⟩
    obtain ⟨b, hb, hk⟩ := exK_get ht hx
    refine ⟨b, hb, fun e a ha => ?_, fun e => ?_⟩
    · subst e
      rw [iteP_t] at hk
      refine ⟨G, S', _, l', xo.rs, hk, fun S2 σ2 H2 ag2 l2 h2 rs2 => nx S2 σ2 H2 (ag.trans ag2) l2 h2 rs2, fun m S2 v σ2 H2 ag2 l2 h2 rs2 => rt m S2 v σ2 H2 (ag.trans ag2) l2 h2 rs2, fun S2 σ2 H2 ag2 l2 h2 rs2 => bk S2 σ2 H2 (ag.trans ag2) l2 h2 rs2, fun S2 σ2 H2 ag2 l2 h2 rs2 => ct S2 σ2 H2 (ag.trans ag2) l2 h2 rs2, fun c fs S2 d σ2 H2 ag2 l2 h2 rs2 => h2.elim⟩
    · subst e
      rw [iteP_f] at hk
      exact ex cl fs S' d σ' H' ag l' hk xo⟩
/-! ### with a name -/
section
variable {K : PySem.W.Frag} {H : Hp} {O : List Addr}
mutual
theorem RM.noxd : ∀ {x : Option V} {m : M} {fp : List Addr}, RM K H O x m fp → ∀ a ∈ fp, ∀ fs, H a ≠ some (.xd fs)
  | _, _, _, .gone x, a, z => nomatch z
  | _, _, _, .v h, a, z => nomatch z
  | _, _, _, .ml h r, a, z => by rw [List.mem_singleton] at z; subst z; rw [h]; intro fs e; cases e
  | _, _, _, .mk h e r, a, z => by rw [List.mem_singleton] at z; subst z; rw [h]; intro fs e; cases e
  | _, _, _, .mt h e r, a, z => by rw [List.mem_singleton] at z; subst z; rw [h]; intro fs e; cases e
  | _, _, _, .mo h e l r, a, z => by
    rcases List.mem_cons.mp z with z | z
    · subst z; rw [h]; intro fs e; cases e
    · exact RL.noxd r a z
  | _, _, _, .mkm h e l r, a, z => by
    rcases List.mem_cons.mp z with z | z
    · subst z; rw [h]; intro fs e; cases e
    · exact RL.noxd r a z
theorem RL.noxd : ∀ {L : List Pr} {fp : List Addr}, RL K H O L fp → ∀ a ∈ fp, ∀ fs, H a ≠ some (.xd fs)
  | _, _, .nil _, a, z => nomatch z
  | _, _, .cons h r, a, z => by
    rcases List.mem_append.mp z with z | z
    · exact RM.noxd h a z
    · exact RL.noxd r a z
end
end
/-- what the name of a clause holds -/
def exSu (fs : Option (List (Str × D))) (k : Addr → Option Addr → M → Prop) : Prop := match fs with
  | none => ∀ a, k a none (.v (.ptr a))
  | some fs => ∀ a dd, k a (some dd) (.v (.exc a dd (fs.map Prod.fst) (fs.map Prod.snd)))
theorem exSu_get {K : PySem.W.Frag} {H : Hp} {d : Option Addr} {fs : Option (List (Str × D))} {L : List Pr} {k : Addr → Option Addr → M → Prop} (a : Addr) (h : XOk K H d fs L) (hk : exSu fs k) : ∃ m, k a d m ∧ RS K H ((some (.ref a), m) :: L) := by
  cases fs with
  | none =>
    cases d with
    | none => exact ⟨_, hk a, RS.data h fun O => .ptr a⟩
    | some d => exact h.elim
  | some fs =>
    cases d with
    | none => exact h.elim
    | some d =>
      obtain ⟨fvs, e1, e2, rs⟩ := h
      refine ⟨_, hk a d, ?_⟩
      have hl : fvs.length = fs.length := by
        have := congrArg List.length e2
        rwa [List.length_map, List.length_map] at this
      obtain ⟨O, n, hd, r⟩ := RS.frozen (vs := fvs.map Prod.snd) (ms := (fs.map Prod.snd).map M.v) (by rw [List.length_map, List.length_map, List.length_map]; exact hl) rs (fzoks_v _)
      rw [fzs_v] at hd
      have no : d ∉ O := fun z => r.noxd d z _ e1
      exact ⟨O, n, .cons (fp := []) (.v (.exc no e1 e2 hd)) r⟩
def endA (i : Nat) (E : EM) : EM := { nx := fun S => setK S i .gone E.nx, rt := E.rt, bk := fun S => setK S i .gone E.bk, ct := fun S => setK S i .gone E.ct, ex := fun _ _ => False }
/-- try: fb / except c as n: su, n in slot i -/
def sTryA (i : Nat) (t : List (Value × Bool)) (fb : FS) (su : Addr → Option Addr → EX → FS) : FS := fun E S => fb { E with ex := fun x S' => exK t x.1 fun b => iteP b (exSu x.2 fun a d m => setK S' i m fun S2 => su a d x (endA i E) S2) (E.ex x S') } S
theorem ds_tryA {i : Nat} {x n : Str} {c : Value} {body suite : List Stmt} {b0 : Stmt} {np pos pos' : Pos} {t : List (Value × Bool)} {fb : FS} {su : Addr → Option Addr → EX → FS} (hs : X.stack = X.env :: X.outer) (hf : X.env.frame = some X.env.locals) (hN : X.N.Nodup) (hi : X.N[i]? = some n) (hln : X.env.kindOf n = some .local)
    (hm : mask[i]? ≠ some true) (hc : Names X x c) (tk : Takes X W) (ht : ∀ p ∈ t, PySem.W.exmOne X.K p.1 c = some p.2)
    (hb : ∀ (W' : WX) (pn : List (Addr × Obj)) (xe : Value → Shared → Prop), Takes (X.tr pn xe) W' → PassesOwn (model X.prog X.w) X.A X.env xe → DSs (X.tr pn xe) W' mask body fb)
    (hsu : ∀ (a : Addr) (oe : Obj) (cls : Value) (d : Option Addr) (pn : List (Addr × Obj)), Zc cls d oe → (∃ vs, oe.data = .fields vs) → ∀ fs, DSs (X.suite a ((a, oe) :: pn)) W0 mask (b0 :: suite) (su a d (cls, fs))) :
    DS X W mask (.Try body [.ExceptHandler (some (.Name x np)) (some n) (b0 :: suite) pos'] [] [] pos) (sTryA i t fb su) :=
  ⟨ps_le (ps_try_as (i := i) (tb := fun W' => tDS X.K W' mask fb) (ts := fun a cls d D σ H => ∃ fs, tDS X.K W0 mask (su a d (cls, fs)) D σ H) hs hf hN hi hln hc tk (fun W' pn xe tk' po => (hb W' pn xe tk' po).ps)
    (fun a oe cls d pn hz hd => ⟨fun pins s σ H D I h => by
      obtain ⟨fs, h⟩ := h
      exact (hsu a oe cls d pn hz hd fs).ps.run pins s σ H D I h⟩)) fun D σ H h => by
    obtain ⟨G, S, E, l, rs, hF, nx, rt, bk, ct, ex⟩ := h
    refine ⟨G, S, _, l, rs, hF, nx, rt, bk, ct, fun cl fs S' d σ' H' ag l' hx xo => ?_⟩
    obtain ⟨b, hb, hk⟩ := exK_get ht hx
    refine ⟨b, hb, fun e a ha => ?_, fun e => ?_⟩
    · subst e
      rw [iteP_t] at hk
      obtain ⟨m, hk, rs1⟩ := exSu_get a xo hk
      rw [setK_eq] at hk
      have l1 : (σ'.set i (some (.ref a))).length = (S'.set i m).length := by rw [List.length_set, List.length_set]; exact l'
      have ag1 : Ag mask σ (σ'.set i (some (.ref a))) := ag.trans (Ag.set _ hm)
      have off : ∀ {E1 : List M → Prop} {D1 : L2.St → Hp → Prop}, (∀ S' σ' H', Ag mask σ σ' → σ'.length = S'.length → E1 S' → RS X.K H' (G ++ σ'.zip S') → D1 σ' H') → ∀ S2 σ2 H2, Ag mask (σ'.set i (some (.ref a))) σ2 → σ2.length = S2.length → setK S2 i .gone E1 → RS X.K H2 (G ++ σ2.zip S2) → D1 (σ2.set i none) H2 := fun {E1 D1} k S2 σ2 H2 ag2 l2 h2 rs2 => by
        rw [setK_eq] at h2
        exact k _ _ H2 ((ag1.trans ag2).trans (Ag.set _ hm)) (by rw [List.length_set, List.length_set]; exact l2) h2 (RS.put' (rs2.add0 none) l2)
      refine ⟨fs, G, S'.set i m, _, l1, rs1.put' l', hk, off nx, fun m S2 v σ2 H2 ag2 l2 h2 rs2 => rt m S2 v σ2 H2 (ag1.trans ag2) l2 h2 rs2, off bk, off ct, fun c fs S2 d σ2 H2 ag2 l2 h2 rs2 => h2.elim⟩
    · subst e
      rw [iteP_f] at hk
      exact ex cl fs S' d σ' H' ag l' hk xo⟩
end
end DM

/-! Dicts: keys ints and texts, or tuples of them. -/
namespace DM
open PySem PySem.Spec PyProof.Rows
open L2
variable [Tabs]
abbrev DKey := L2.Key
def keyK : D → Option DKey
  | .int i => some (.inl i)
  | .str x => some (.inr x)
  | _ => none
def keysD : List D → Option (List DKey)
  | [] => some []
  | d :: ds => match keyK d, keysD ds with
    | some k, some ks => some (k :: ks)
    | _, _ => none
def keyT : D → Option (List DKey)
  | .tup ds => keysD ds
  | _ => none
def dTV : M → Option (List (List DKey) × List D)
  | .mt ks ds => some (ks, ds)
  | .v (.dT ks ds) => some (ks, ds)
  | _ => none
def dKV : M → Option (List DKey × List D)
  | .mk ks ds => some (ks, ds)
  | .v (.dK ks ds) => some (ks, ds)
  | _ => none
section
variable {κ : Type} [DecidableEq κ]
def lkD (ks : List κ) (ds : List D) (k : κ) : Option D := ((ks.zip ds).find? fun p => decide (p.1 = k)).map (·.2)
def putKs (ks : List κ) (k : κ) : List κ := if k ∈ ks then ks else ks ++ [k]
def putDs (ks : List κ) (ds : List D) (k : κ) (d : D) : List D := if k ∈ ks then List.zipWith (fun k' d' => if k' = k then d else d') ks ds else ds ++ [d]
/-- a value and its datum, or neither -/
def OptR (K : PySem.W.Frag) (H : Hp) (O : List Addr) (o : Option V) (od : Option D) : Prop := match o, od with
  | none, none => True
  | some v, some d => RD K H O v d
  | _, _ => False
variable {K : PySem.W.Frag} {H : Hp} {O : List Addr}
theorem lk_rel {k : κ} : ∀ {kvs : List (κ × V)} {ds : List D}, RDs K H O (kvs.map Prod.snd) ds → OptR K H O (valV kvs k) (lkD (kvs.map Prod.fst) ds k)
  | [], _, r => by
    cases r
    exact trivial
  | (k', v) :: kvs, _, r => by
    cases r with
    | @cons _ d _ ds h r =>
      by_cases e : k' = k
      · rw [valV_pos (p := (k', v)) e]
        have e2 : lkD (((k', v) :: kvs).map Prod.fst) (d :: ds) k = some d := by
          unfold lkD
          rw [List.map_cons, List.zip_cons_cons, List.find?_cons_of_pos (by simpa using e)]
          rfl
        rw [e2]
        exact h
      · rw [valV_neg (p := (k', v)) e]
        have e2 : lkD (((k', v) :: kvs).map Prod.fst) (d :: ds) k = lkD (kvs.map Prod.fst) ds k := by
          unfold lkD
          rw [List.map_cons, List.zip_cons_cons, List.find?_cons_of_neg (by simpa using e)]
        rw [e2]
        exact lk_rel r
theorem any_mem (k : κ) (kvs : List (κ × V)) : ((kvs.any fun kv => decide (kv.1 = k)) = true) ↔ k ∈ kvs.map Prod.fst := by
  rw [List.any_eq_true, List.mem_map]
  constructor
  · rintro ⟨p, hp, e⟩
    exact ⟨p, hp, of_decide_eq_true e⟩
  · rintro ⟨p, hp, e⟩
    exact ⟨p, hp, decide_eq_true e⟩
theorem put_rel {k : κ} {v : V} {d : D} {kvs : List (κ × V)} {ds : List D} (r : RDs K H O (kvs.map Prod.snd) ds) (h : RD K H O v d) : (putK kvs k v).map Prod.fst = putKs (kvs.map Prod.fst) k ∧ RDs K H O ((putK kvs k v).map Prod.snd) (putDs (kvs.map Prod.fst) ds k d) := by
  unfold putK putKs putDs
  by_cases e : k ∈ kvs.map Prod.fst
  · rw [if_pos ((any_mem k kvs).mpr e), if_pos e, if_pos e]
    refine ⟨?_, ?_⟩
    · rw [List.map_map]
      refine List.map_congr_left fun p _ => ?_
      show (if p.1 = k then (p.1, v) else p).1 = p.1
      split <;> rfl
    · clear e
      induction kvs generalizing ds with
      | nil =>
        cases r
        exact .nil
      | cons p kvs ih =>
        cases r with
        | cons h1 r1 =>
          refine .cons ?_ (ih r1)
          by_cases q : p.1 = k
          · simp only [q, if_true]
            exact h
          · simp only [q, if_false]
            exact h1
  · rw [if_neg (fun z => e ((any_mem k kvs).mp z)), if_neg e, if_neg e, List.map_append, List.map_append]
    exact ⟨rfl, r.append (.cons h .nil)⟩
end
section
variable {K : PySem.W.Frag} {H : Hp} {O : List Addr}
theorem key_of {v : V} {d : D} {k : DKey} (h : RD K H O v d) (e : keyK d = some k) : v = kV k := by
  cases h <;> first | (cases e; rfl) | cases e
theorem keys_of : ∀ {vs : List V} {ds : List D} {ks : List DKey}, RDs K H O vs ds → keysD ds = some ks → vs = ks.map kV
  | _, _, _, .nil, e => by
    cases e
    rfl
  | _, _, ks, .cons (d := d) (ds := ds) h r, e => by
    unfold keysD at e
    cases e1 : keyK d with
    | none => rw [e1] at e; cases e
    | some k =>
      cases e2 : keysD ds with
      | none => rw [e1, e2] at e; cases e
      | some ks =>
        rw [e1, e2] at e
        cases e
        rw [key_of h e1, keys_of r e2]
        rfl
theorem keyT_of {v : V} {d : D} {k : List DKey} (h : RD K H O v d) (e : keyT d = some k) : ∃ b, v = .ref b ∧ H b = some (.tup (k.map kV)) := by
  cases h with
  | tup h r =>
    refine ⟨_, rfl, ?_⟩
    rw [← keys_of r e]
    exact h.1
  | _ => cases e
/-- what a dict holds at a key -/
def dgP (d : M) (kd : D) (k : Option D → Prop) : Prop := (∃ ks ds key, dTV d = some (ks, ds) ∧ keyT kd = some key ∧ k (lkD ks ds key)) ∨ (∃ ks ds key, dKV d = some (ks, ds) ∧ keyK kd = some key ∧ k (lkD ks ds key))
theorem dg_of {x : Option V} {d : M} {fp : List Addr} {y : V} {kd : D} {k : Option D → Prop} (hd : RM K H O x d fp) (hy : RD K H O y kd) (h : dgP d kd k) : ∃ a o od, x = some (.ref a) ∧ DGet H a y o ∧ OptR K H O o od ∧ IsD H a ∧ k od := by
  rcases h with ⟨ks, ds, key, e1, e2, h⟩ | ⟨ks, ds, key, e1, e2, h⟩
  · obtain ⟨b, rfl, hb⟩ := keyT_of hy e2
    have go : ∀ {a : Addr} {kvs : List (List DKey × V)}, H a = some (.dT kvs) → kvs.map Prod.fst = ks → RDs K H O (kvs.map Prod.snd) ds → ∃ a' o od, some (V.ref a) = some (.ref a') ∧ DGet H a' (.ref b) o ∧ OptR K H O o od ∧ IsD H a' ∧ k od := fun {a kvs} hH e r => by
      subst e
      exact ⟨a, _, _, rfl, DGet.t hH hb, lk_rel r, .inr ⟨kvs, .inl hH⟩, h⟩
    cases hd with
    | mt hH e r => cases e1; exact go hH e r
    | v hv =>
      cases hv with
      | dT _ hH e r => cases e1; exact go hH e r
      | _ => cases e1
    | _ => cases e1
  · have e3 := key_of hy e2
    subst e3
    have go : ∀ {a : Addr} {kvs : List (DKey × V)}, H a = some (.dK kvs) → kvs.map Prod.fst = ks → RDs K H O (kvs.map Prod.snd) ds → ∃ a' o od, some (V.ref a) = some (.ref a') ∧ DGet H a' (kV key) o ∧ OptR K H O o od ∧ IsD H a' ∧ k od := fun {a kvs} hH e r => by
      subst e
      exact ⟨a, _, _, rfl, DGet.k hH, lk_rel r, .inl ⟨kvs, .inl hH⟩, h⟩
    cases hd with
    | mk hH e r => cases e1; exact go hH e r
    | v hv =>
      cases hv with
      | dK _ hH e r => cases e1; exact go hH e r
      | _ => cases e1
    | _ => cases e1
end
/-! ### rules -/
def dgetB : BM := fun ms R => match ms with
  | [d, .v kd] => dgP d kd fun o => match o with
    | some e => R (.v e) [d, .v kd]
    | none => False
  | _ => False
def dget1B : BM := fun ms R => match ms with
  | [d, .v kd] => dgP d kd fun o => match o with
    | some e => R (.v e) [d, .v kd]
    | none => R (.v .non) [d, .v kd]
  | _ => False
def dinB : BM := fun ms R => match ms with
  | [.v kd, d] => dgP d kd fun o => R (.v (.bl o.isSome)) [.v kd, d]
  | _ => False
def dninB : BM := fun ms R => match ms with
  | [.v kd, d] => dgP d kd fun o => R (.v (.bl (!o.isSome))) [.v kd, d]
  | _ => False
section
variable {X : Cx} {W : WX} {K : PySem.W.Frag} {H : Hp} {x y : V} {Q : VK}
theorem OptR.isSome {O : List Addr} {o : Option V} {od : Option D} (h : OptR K H O o od) : o.isSome = od.isSome := by
  cases o <;> cases od <;> first | rfl | exact h.elim
theorem rB_dget (h : rB K dgetB [x, y] H Q) : ∃ a v, x = .ref a ∧ DGet H a y (some v) ∧ Q v H := by
  obtain ⟨L, ms, R, l, rs, hb, hQ⟩ := h
  unfold dgetB at hb
  split at hb
  · rename_i d kd
    obtain ⟨O, f1, f2, n, h1, h2, r⟩ := RS.two rs
    cases h2 with
    | v h2 =>
      obtain ⟨a, o, od, e1, g, oo, _, hk⟩ := dg_of h1 h2 hb
      cases e1
      cases od with
      | none => exact hk.elim
      | some dd =>
        cases o with
        | none => exact oo.elim
        | some v => exact ⟨a, v, rfl, g, hQ _ _ _ _ hk ⟨O, n, .cons (fp := []) (.v oo) r⟩⟩
  · exact hb.elim
theorem rB_din (h : rB K dinB [y, x] H Q) : ∃ a o, x = .ref a ∧ DGet H a y o ∧ Q (.bl o.isSome) H := by
  obtain ⟨L, ms, R, l, rs, hb, hQ⟩ := h
  unfold dinB at hb
  split at hb
  · rename_i kd d
    obtain ⟨O, f1, f2, n, h2, h1, r⟩ := RS.two rs
    cases h2 with
    | v h2 =>
      obtain ⟨a, o, od, e1, g, oo, _, hk⟩ := dg_of h1 h2 hb
      cases e1
      rw [← oo.isSome] at hk
      exact ⟨a, o, rfl, g, hQ _ _ _ _ hk (RS.bl ⟨O, n, r⟩ _)⟩
  · exact hb.elim
theorem rB_dnin (h : rB K dninB [y, x] H Q) : ∃ a o, x = .ref a ∧ DGet H a y o ∧ Q (.bl (!o.isSome)) H := by
  obtain ⟨L, ms, R, l, rs, hb, hQ⟩ := h
  unfold dninB at hb
  split at hb
  · rename_i kd d
    obtain ⟨O, f1, f2, n, h2, h1, r⟩ := RS.two rs
    cases h2 with
    | v h2 =>
      obtain ⟨a, o, od, e1, g, oo, _, hk⟩ := dg_of h1 h2 hb
      cases e1
      rw [← oo.isSome] at hk
      exact ⟨a, o, rfl, g, hQ _ _ _ _ hk (RS.bl ⟨O, n, r⟩ _)⟩
  · exact hb.elim
theorem de_dget {o i : Expr} {fo fi : FO} {pos : Pos} (hu : X.A.units + 1 < cLine) (ho : DO X W o fo) (hi : DO X W i fi) (hs : NoSl i := by exact fun _ _ => rfl) : DE X W (.Subscript o i pos) (f2 dgetB fo fi) :=
  ⟨pe_le (pe_dget hu ho.pe hi.pe hs) fun σ H Q h => tDO_mono (tD_f2 h) fun v H1 q => tDO_mono q fun w H2 q => rB_dget q⟩
theorem de_din {o i : Expr} {fo fi : FO} {pos : Pos} (hu : X.A.units + 1 < cLine) (hi : DO X W i fi) (ho : DO X W o fo) (hm : behindInMarks .In o = false := by rfl) : DE X W (.Compare i [.In] [o] pos) (f2 dinB fi fo) :=
  ⟨pe_le (pe_cmp (pc_din hu hi.pe ho.pe) hm) fun σ H Q h => tDO_mono (tD_f2 h) fun v H1 q => tDO_mono q fun w H2 q => rB_din q⟩
theorem de_dnin {o i : Expr} {fo fi : FO} {pos : Pos} (hu : X.A.units + 1 < cLine) (hi : DO X W i fi) (ho : DO X W o fo) (hm : behindInMarks .NotIn o = false := by rfl) : DE X W (.Compare i [.NotIn] [o] pos) (f2 dninB fi fo) :=
  ⟨pe_le (pe_cmp (pc_dnotin hu hi.pe ho.pe) hm) fun σ H Q h => tDO_mono (tD_f2 h) fun v H1 q => tDO_mono q fun w H2 q => rB_dnin q⟩
def fNewK : FE := fun S R _ => R (.mk [] []) S
def fNewT : FE := fun S R _ => R (.mt [] []) S
theorem de_newK {pos : Pos} : DE X W (.Dict [] [] pos) fNewK := ⟨pe_le pe_dnewK fun σ H Q h => by
  obtain ⟨G, S, R, XR, l, rs, hF, hQ, hX⟩ := h
  exact fun p hp => hQ _ _ _ _ l hF (RS.newK rs hp)⟩
theorem de_newT {pos : Pos} : DE X W (.Dict [] [] pos) fNewT := ⟨pe_le pe_dnewT fun σ H Q h => by
  obtain ⟨G, S, R, XR, l, rs, hF, hQ, hX⟩ := h
  exact fun p hp => hQ _ _ _ _ l hF (RS.newT rs hp)⟩
theorem RS.mt2 {L : List Pr} {ks : List (List DKey)} {ds : List D} {z : Option V} (rs : RS K H ((z, .mt ks ds) :: L)) : ∃ a kvs, z = some (.ref a) ∧ H a = some (.dT kvs) ∧ kvs.map Prod.fst = ks ∧ ∃ O, O.Nodup ∧ RDs K H O (kvs.map Prod.snd) ds ∧ RL K H O ((z, .mt ks ds) :: L) O ∧
    ∀ kvs' ks' ds', kvs'.map Prod.fst = ks' → RDs K H O (kvs'.map Prod.snd) ds' → RL K (upd H a (.dT kvs')) O ((z, .mt ks' ds') :: L) O := by
  obtain ⟨O, n, r⟩ := rs
  have r' := r
  generalize hO : O = O' at r
  cases r with
  | @cons _ _ _ fp f2 h r =>
    cases h with
    | @mt a kvs _ _ e e1 r2 =>
      subst hO
      refine ⟨a, kvs, rfl, e, e1, _, n, r2, r', fun kvs' ks' ds' h1 h2 => ?_⟩
      have d := List.nodup_append.mp n
      refine .cons (fp := [a]) (.mt upd_same h1 (h2.step (stp_put (by simp) fun b z => z))) (r.step (stp_put (by simp) fun b z => z) fun b hb o ho => ?_)
      rw [upd_ne fun z => d.2.2 a (by simp) b hb z.symm]
      exact ho
theorem RS.mk2 {L : List Pr} {ks : List DKey} {ds : List D} {z : Option V} (rs : RS K H ((z, .mk ks ds) :: L)) : ∃ a kvs, z = some (.ref a) ∧ H a = some (.dK kvs) ∧ kvs.map Prod.fst = ks ∧ ∃ O, O.Nodup ∧ RDs K H O (kvs.map Prod.snd) ds ∧ RL K H O ((z, .mk ks ds) :: L) O ∧
    ∀ kvs' ks' ds', kvs'.map Prod.fst = ks' → RDs K H O (kvs'.map Prod.snd) ds' → RL K (upd H a (.dK kvs')) O ((z, .mk ks' ds') :: L) O := by
  obtain ⟨O, n, r⟩ := rs
  have r' := r
  generalize hO : O = O' at r
  cases r with
  | @cons _ _ _ fp f2 h r =>
    cases h with
    | @mk a kvs _ _ e e1 r2 =>
      subst hO
      refine ⟨a, kvs, rfl, e, e1, _, n, r2, r', fun kvs' ks' ds' h1 h2 => ?_⟩
      have d := List.nodup_append.mp n
      refine .cons (fp := [a]) (.mk upd_same h1 (h2.step (stp_put (by simp) fun b z => z))) (r.step (stp_put (by simp) fun b z => z) fun b hb o ho => ?_)
      rw [upd_ne fun z => d.2.2 a (by simp) b hb z.symm]
      exact ho
/-- d[k] = e -/
def dputB : BM := fun ms R => match ms with
  | [.mt ks ds, .v kd, e] => asD e fun d => ∃ key, keyT kd = some key ∧ ks.length < sizeLine ∧ R (.v .non) [.mt (putKs ks key) (putDs ks ds key d), .v kd, .v d]
  | [.mk ks ds, .v kd, e] => asD e fun d => ∃ key, keyK kd = some key ∧ ks.length < sizeLine ∧ R (.v .non) [.mk (putKs ks key) (putDs ks ds key d), .v kd, .v d]
  | _ => False
theorem rB_dput {v : V} {Q : Hp → Prop} (h : rB K dputB [x, y, v] H fun _ H' => Q H') : ∃ a H', x = .ref a ∧ DPut H a y v H' ∧ Q H' := by
  obtain ⟨L, ms, R, l, rs, hb, hQ⟩ := h
  unfold dputB at hb
  split at hb
  · rename_i ks ds kd e
    have rs0 : RS K H ((some v, e) :: (some x, .mt ks ds) :: (some y, .v kd) :: L) := RS.perm ((List.Perm.cons _ (.swap _ _ _)).trans (.swap _ _ _)) rs
    obtain ⟨d, ⟨key, ek, hl, hr⟩, rs1⟩ := RS.asD rs0 hb
    obtain ⟨a, kvs, e1, hH, e2, O, n, r1, r2, put⟩ := RS.mt2 rs1.swap
    cases e1
    subst e2
    obtain ⟨_, q1⟩ := r2.tl
    obtain ⟨_, q2⟩ := q1.tl
    obtain ⟨v', e3, h3⟩ := q1.hd
    obtain ⟨y', e4, h4⟩ := q2.hd
    cases e3
    cases e4
    obtain ⟨b, rfl, hb⟩ := keyT_of h4 ek
    obtain ⟨p1, p2⟩ := put_rel (k := key) r1 h3
    refine ⟨a, _, rfl, DPut.t hH hb (by rw [List.length_map] at hl; exact hl), hQ _ _ .non _ hr ?_⟩
    have q : RS K (upd H a (.dT (putK kvs key v))) ((some (.ref a), .mt (putKs (kvs.map Prod.fst) key) (putDs (kvs.map Prod.fst) ds key d)) :: (some v, .v d) :: (some (.ref b), .v kd) :: L) := ⟨O, n, put _ _ _ p1 p2⟩
    have q3 : RS K (upd H a (.dT (putK kvs key v))) ((some (.ref a), .mt (putKs (kvs.map Prod.fst) key) (putDs (kvs.map Prod.fst) ds key d)) :: (some (.ref b), .v kd) :: (some v, .v d) :: L) := RS.perm (List.Perm.cons _ (.swap _ _ _)) q
    exact q3.val fun _ => .non
  · rename_i ks ds kd e
    have rs0 : RS K H ((some v, e) :: (some x, .mk ks ds) :: (some y, .v kd) :: L) := RS.perm ((List.Perm.cons _ (.swap _ _ _)).trans (.swap _ _ _)) rs
    obtain ⟨d, ⟨key, ek, hl, hr⟩, rs1⟩ := RS.asD rs0 hb
    obtain ⟨a, kvs, e1, hH, e2, O, n, r1, r2, put⟩ := RS.mk2 rs1.swap
    cases e1
    subst e2
    obtain ⟨_, q1⟩ := r2.tl
    obtain ⟨_, q2⟩ := q1.tl
    obtain ⟨v', e3, h3⟩ := q1.hd
    obtain ⟨y', e4, h4⟩ := q2.hd
    cases e3
    cases e4
    have hy := key_of h4 ek
    subst hy
    obtain ⟨p1, p2⟩ := put_rel (k := key) r1 h3
    refine ⟨a, _, rfl, DPut.k hH (by rw [List.length_map] at hl; exact hl), hQ _ _ .non _ hr ?_⟩
    have q : RS K (upd H a (.dK (putK kvs key v))) ((some (.ref a), .mk (putKs (kvs.map Prod.fst) key) (putDs (kvs.map Prod.fst) ds key d)) :: (some v, .v d) :: (some (kV key), .v kd) :: L) := ⟨O, n, put _ _ _ p1 p2⟩
    have q3 : RS K (upd H a (.dK (putK kvs key v))) ((some (.ref a), .mk (putKs (kvs.map Prod.fst) key) (putDs (kvs.map Prod.fst) ds key d)) :: (some (kV key), .v kd) :: (some v, .v d) :: L) := RS.perm (List.Perm.cons _ (.swap _ _ _)) q
    exact q3.val fun _ => .non
  · exact hb.elim
variable {mask : List Bool}
def sDput (fo fi : FO) (F : FE) : FS := fun E S => F S (fun m S1 => fo S1 (fun a S2 => fi S2 (fun c S3 => callB dputB [a, c, .m m] S3 fun _ S4 => E.nx S4) E.ex) E.ex) E.ex
theorem ds_dput {o i e : Expr} {fo fi : FO} {F : FE} {pos pos' : Pos} (hu : X.A.units + 1 < cLine) (ho : DO X W o fo) (hi : DO X W i fi) (he : DE X W e F) (hs : swapsWith e (some (.Subscript o i pos')) pos.line X.env = pure false := by rfl) : DS X W mask (.Assign [.Subscript o i pos'] e pos) (sDput fo fi F) :=
  ⟨ps_le (ps_dput hu ho.pe hi.pe he.pe hs) fun D σ H h => by
    obtain ⟨G, S, E, l, rs, hF, nx, rt, bk, ct, ex⟩ := h
    refine ⟨G, S, _, E.ex, l, rs, hF, fun m S1 v H1 l1 h1 rs1 => ?_, fun c fs S' d H' l' hx xo => ex c fs S' d σ H' (Ag.refl σ) l' hx xo⟩
    refine ⟨(some v, m) :: G, S1, _, E.ex, l1, rs1, h1, fun a S2 x H2 l2 h2 ok2 rs2 => ?_, fun c fs S' d H' l' hx xo => ex c fs S' d σ H' (Ag.refl σ) l' hx xo.drop⟩
    refine ⟨(some x, arM a) :: (some v, m) :: G, S2, _, E.ex, l2, rs2, h2, fun c S3 y H3 l3 h3 ok3 rs3 => ?_, fun c fs S' d H' l' hx xo => ex c fs S' d σ H' (Ag.refl σ) l' hx xo.drop.drop⟩
    refine rB_dput (rB_of (as := [a, c, .m m]) (vs := [x, y, v]) l3 ⟨ok2, ok3, trivial, trivial⟩ ?_ h3 fun r S4 w H4 l4 h4 rs4 => nx _ _ _ (Ag.refl σ) l4 h4 rs4.drop)
    exact RS.swap rs3⟩
end
end DM

/-! == and != by an own __eq__, both answers. -/
namespace DM
open PySem PySem.Spec PyProof.Rows
open L2
variable [Tabs]
section
variable {X : Cx} {W : WX}
abbrev XK0 : XK := fun _ _ _ => False
def rEqO (C : Addr) (sp : Sp) : R2 := fun x y H Q => ∃ a b dx dy fs gs, x = .ref a ∧ y = .ref b ∧ H a = some (.ins C dx fs) ∧ H b = some (.ins C dy gs) ∧ sp [x, y] H (fun v H' => ∃ k, v = .bl k ∧ Q (.bl k) H') XK0
theorem pass_no {σ : L2.St} : PassesAt (L2.CX X.prog X.w) X σ XK0 := fun pins H s e s' I c => by
  obtain ⟨_, _, _, _, _, _, _, _, _, _, _, _, z⟩ := c
  exact z.elim
theorem op_eqO {n : Nat} {C f : Addr} {fd : FuncData} {ps : List Str} {sp : Sp} (F : FnOk X.prog X.w X.K X.mg X.base (L2.CX X.prog X.w) n f fd ps sp) (hr : Room n X.A) (hs : PySem.W.findIn X.K (.ref C) "__eq__" = some (some (.ref f))) (hf : PySem.W.isFn X.K (.ref f) = true) (hb : Binds X.K fd ps []) :
    OpR X (compareOp .Eq) (rEqO C sp) := by
  intro pins s σ H x y v u Q I rx ry h
  obtain ⟨a, b, dx, dy, fs, gs, rfl, rfl, ha, hb', hsp⟩ := h
  cases rx
  cases ry
  obtain ⟨mA, J, _⟩ := ins_get I.hok ha
  obtain ⟨mB, J2, _⟩ := ins_get I.hok hb'
  obtain ⟨od, J, _⟩ := J.look
  obtain ⟨od2, J2, _⟩ := J2.look
  obtain ⟨m, hF⟩ := I.fr
  show wpAny _ _ (richCompare .Eq (.ref a) (.ref b)) _ _ _
  have nf : PySem.W.notFirst X.K C (.ref C) = true := by simp [PySem.W.notFirst]
  refine PySem.W.cmp_K (op := .Eq) (tb := .ref C) hr.units0 hF I.ok.mod.kin J J2.type nf hs hf ?_
  refine wpAny_mono (run_fnS (σ := σ) (E := fun _ => XK0) (us := [.ref a, .ref b]) (vs := [.ref a, .ref b]) F hr hb pass_no I (.cons rfl (.cons rfl .nil)) hsp) (fun w s' z => ?_) fun _ _ e => e
  obtain ⟨z0, H', I', rz, k, rfl, hq⟩ := z
  cases rz
  exact ⟨.bl k, H', I', rfl, hq⟩
end
/-! ### != -/
section
variable {pr : Program} {wd : World} {Ar0 : Around} {Ex : Value → Shared → Prop} {sh : Shared} {K : PySem.W.Frag} {px py C f : Addr} {ob : Obj} {od : Option Obj}
theorem neO_bound {M : Model} {us : List Value} {Qo : Option Value → Shared → Prop} (kin : K.In sh.heap) (J : PySem.W.InstAt sh.heap px ob C od) (hn : PySem.W.findIn K (.ref C) "__ne__" = some (some (.builtin "object.__ne__")))
    (hc : wpAny M Ar0 (call (.builtin "object.__ne__") (.ref px :: us)) (fun v => Qo (some v)) Ex sh) : wpAny M Ar0 (callSpecialIfBound? (.ref px) "__ne__" us) Qo Ex sh := by
  have last : wpAny M Ar0 (call (.builtin "object.__ne__") ([.ref px] ++ us) >>= fun v => pure (some v)) Qo Ex sh :=
    wpAny_bind (wpAny_mono hc (fun _ _ z => wpAny_pure z) fun _ _ z => z)
  simp only [callSpecialIfBound?, bindSpecialIfBound?]
  refine wpAny_holding (wpAny_bind (wpAny_bind (wpAny_bind (J.type.here ((PySem.W.looks_findIn kin hn).here (wpAny_bind (wpAny_askSetting (wpAny_ite ?_))))))))
  split
  · exact wpAny_bind (wpAny_of_eq (F.cmp_object.ne.bind _) (wpAny_pure (by exact last)))
  · exact wpAny_tryCatch (wpAny_bind (wpAny_of_eq (F.cmp_object.ne.bind _) (wpAny_pure (by exact last))))
theorem neO_entry {Qf : Fin → Shared → Prop} (hu : Ar0.units < cLine) (kin : K.In sh.heap) (J : PySem.W.InstAt sh.heap px ob C od) (hs : PySem.W.findIn K (.ref C) "__eq__" = some (some (.ref f))) (hf : PySem.W.isFn K (.ref f) = true)
    (hc : wpAny (model pr wd) Ar0 (call (.ref f) [.ref px, .ref py]) (fun v s' => ∃ b, v = .bool b ∧ Qf (.done (.ret (.bool (!b)))) s') Ex sh) : wpAny (model pr wd) Ar0 (Builtin.«object.__ne__» ⟨[.ref px, .ref py], []⟩) Qf Ex sh := by
  have go : wpAny (model pr wd) Ar0 (callSpecialIfBound? (.ref px) (Str.ofString "__eq__") [.ref py]) (fun r s' => ∃ b, r = some (.bool b) ∧ Qf (.done (.ret (.bool (!b)))) s') Ex sh :=
    PySem.W.ifBound_K kin J hs hf (wpAny_mono hc (fun v s' z => by
      obtain ⟨b, rfl, z⟩ := z
      exact ⟨b, rfl, z⟩) fun _ _ z => z)
  unfold Builtin.«object.__ne__»
  repeat (first
    | with_reducible refine wpAny_cRoomFor hu ?_
    | (refine wpAny_bind (m := callSpecialIfBound? (.ref px) (Str.ofString "__eq__") [.ref py]) (wpAny_mono go (fun r s' hr => ?_) fun _ _ z => z); obtain ⟨b, rfl, hq⟩ := hr; (repeat (first | exact hq | exact wpAny_pure hq | exact wpAny_truthy_bool hq | (refine wpAny_bind (m := truthy (.bool _)) (wpAny_truthy_bool ?_)) | wp_step)))
    | wp_step)
end
section
variable {X : Cx} {W : WX}
theorem op_neO {n : Nat} {C f : Addr} {fd : FuncData} {ps : List Str} {sp : Sp} (Fk : FnOk X.prog X.w X.K X.mg X.base (L2.CX X.prog X.w) n f fd ps sp) (hr : Room (n + 1) X.A) (hs : PySem.W.findIn X.K (.ref C) "__eq__" = some (some (.ref f))) (hf : PySem.W.isFn X.K (.ref f) = true)
    (hn : PySem.W.findIn X.K (.ref C) "__ne__" = some (some (.builtin "object.__ne__"))) (hm : PySem.W.mroIn X.K C (.type "object") = some true) (hb : Binds X.K fd ps []) : OpR X (compareOp .NotEq) (fun x y H Q => rEqO C sp x y H fun v H' => ∃ k, v = .bl k ∧ Q (.bl (!k)) H') := by
  intro pins s σ H x y v u Q I rx ry h
  obtain ⟨a, b, dx, dy, fs, gs, rfl, rfl, ha, hb', hsp⟩ := h
  cases rx
  cases ry
  obtain ⟨mA, J, _⟩ := ins_get I.hok ha
  obtain ⟨mB, J2, _⟩ := ins_get I.hok hb'
  obtain ⟨od, J, _⟩ := J.look
  obtain ⟨od2, J2, _⟩ := J2.look
  obtain ⟨m, hF⟩ := I.fr
  have sb : Sub X n X.A.in1 := Sub.in1 ⟨hr, rfl⟩
  have hl := Fk.len _ _ _ _ hsp
  have e0 : Env0 X.prog X.w X.K X.mg X.base X.A.in1 X.stack s H := by
    have z := I.env0
    exact ⟨by rw [sb.fr]; exact z.frames, z.mod, z.bs, z.bsz, z.funs, z.frf, z.hok, z.bare⟩
  have r2 : Vals [V.ref a, V.ref b] [Value.ref a, Value.ref b] := .cons rfl (.cons rfl .nil)
  have called : wpAny (model X.prog X.w) X.A.in1 (call (.ref f) [.ref a, .ref b]) (fun v s' => ∃ k, v = .bool k ∧ ∃ H', Inv X pins σ H' s' ∧ Q (.bl (!k)) H') X.xe s := by
    refine wpAny_call (codeAny_mono (Fk.run X.A.in1 X.stack s H ⟨[.ref a, .ref b], []⟩ [.ref a, .ref b] [.ref a, .ref b] _ XK0 sb.room e0 (binds0 hb I.kIn hl) r2 hsp) fun r s' hq => ?_)
    cases r with
    | error z => exact pass_no (σ := σ) pins H s z s' I hq
    | ok fl =>
      cases fl with
      | next => exact hq.elim
      | brk => exact hq.elim
      | cont => exact hq.elim
      | ret w =>
        obtain ⟨z, H', I', rz, k, rfl, k2, e2, q⟩ := I.after hq
        cases rz
        cases e2
        exact ⟨k, rfl, H', I', q⟩
  have one : wpAny (model X.prog X.w) X.A (tryCompare (.ref a) "__ne__" (.ref b)) (fun r s' => ∃ k, r = some (.bool (!k)) ∧ ∃ H', Inv X pins σ H' s' ∧ Q (.bl (!k)) H') X.xe s := by
    unfold tryCompare
    refine wpAny_bind (neO_bound I.kIn J hn (wpAny_call (codeAny_call_builtin F.cmp_object.ne.plain F.cmpEntry_ne (PySem.W.check_slot F.cmpKind_ne F.cmpSplit_ne (J.type.andThen (PySem.W.looks_mroIn I.kIn hm)) (F.cmpArgs_ne _ _)
      (neO_entry sb.room.units0 I.kIn J hs hf (wpAny_mono called (fun v s' z => ?_) fun _ _ z => z))))))
    obtain ⟨k, rfl, q⟩ := z
    refine ⟨k, rfl, ?_⟩
    first | exact wpAny_pure ⟨k, rfl, q⟩ | exact ⟨_, rfl, wpAny_pure ⟨k, rfl, q⟩⟩
  show wpAny _ _ (richCompare .NotEq (.ref a) (.ref b)) _ _ _
  unfold richCompare
  simp only [oneThing_ref]
  refine wpAny_holding (wpAny_bind (wpAny_cRoomFor hr.units0 (wpAny_bind (J.type.here (wpAny_bind (J2.type.here ?_))))))
  rw [show (Value.ref C != Value.ref C) = false from by simp]
  simp only [Bool.false_eq_true, if_false]
  refine wpAny_bind (wpAny_pure ?_)
  simp only [Bool.false_eq_true, if_false]
  refine wpAny_bind (wpAny_mono one (fun r s' z => ?_) fun _ _ e => e)
  obtain ⟨k, rfl, H', I', q⟩ := z
  exact wpAny_pure ⟨.bl (!k), H', I', rfl, q⟩
end
end DM

/-! Instances compared, asked for their class; ways joined. -/
namespace DM
open PySem PySem.Spec PyProof.Rows
open L2
variable [Tabs]
def insC (C : Addr) (m : M) : Prop := match m with
  | .v (.obj C' _ _) => C' = C
  | .mo C' _ _ => C' = C
  | _ => False
section
variable {X : Cx} {W : WX}
theorem RS.insAt {K : PySem.W.Frag} {H : Hp} {σ : L2.St} {S : List M} {C : Addr} {a : Ar} {v : V} {G : List Pr} (l : σ.length = S.length) (ok : ArOk σ a v) (rs : RS K H ((some v, arM a) :: (G ++ σ.zip S))) (h : insC C (arD a S)) : ∃ b dx fs, v = .ref b ∧ H b = some (.ins C dx fs) := by
  have go : ∀ {L : List Pr} {m : M}, RS K H ((some v, m) :: L) → insC C m → ∃ b dx fs, v = .ref b ∧ H b = some (.ins C dx fs) := fun {L m} rs hh => by
    obtain ⟨O, f1, n, hm, r⟩ := RS.one rs
    unfold insC at hh
    split at hh
    · subst hh
      cases hm with
      | v h1 =>
        cases h1 with
        | obj no hH e rd => exact ⟨_, _, _, rfl, hH⟩
    · subst hh
      cases hm with
      | mo hH e le rl => exact ⟨_, _, _, rfl, hH⟩
    · exact hh.elim
  cases a with
  | m m => exact go rs h
  | f _ _ _ m => exact go rs h
  | n i =>
    unfold arD at h
    simp only at h
    cases e : S[i]? with
    | none => rw [e] at h; exact h.elim
    | some m =>
      rw [e] at h
      obtain ⟨x, e1, r1⟩ := RS.take rs.drop l e
      have e2 : σ[i]? = some (some v) := ok
      rw [e2] at e1
      cases e1
      exact go r1 h
/-- a truth value as it is, or turned -/
def ngB : Bool → Bool → Bool
  | true, k => !k
  | false, k => k
def blR (neg : Bool) (R : RMx) : RMx := fun r S => match r with
  | .v (.bl k) => R (.v (.bl (ngB neg k))) S
  | _ => False
def fEqO (neg : Bool) (C : Addr) (m : FM) (fa fb : FO) : FE := fun S R XR => fa S (fun a S1 => fb S1 (fun c S2 => getD' a S2 fun x => insC C x ∧ getD' c S2 fun y => insC C y ∧ callF m [a, c] S2 (blR neg R) X0) XR) XR
theorem eqO_of {neg : Bool} {C : Addr} {m : FM} {fa fb : FO} {σ : L2.St} {H : Hp} {Q : VK} (h : tD X.K W (fEqO neg C m fa fb) σ H Q) :
    tOp (fun x y H Q => rEqO C (spOf X.K 2 m) x y H fun v H' => ∃ k, v = .bl k ∧ Q (.bl (ngB neg k)) H') (tDO X.K W fa) (tDO X.K W fb) σ H Q := by
  obtain ⟨G, S, R, XR, l, rs, hF, hQ, hX⟩ := h
  refine ⟨G, S, _, XR, l, rs, hF, fun a S1 x H1 l1 hb ok1 rs1 => ?_, hX⟩
  refine ⟨(some x, arM a) :: G, S1, _, XR, l1, rs1, hb, fun c S2 y H2 l2 hc ok2 rs2 => ?_, fun c fs S' d H' l' hx xo => hX c fs S' d H' l' hx xo.drop⟩
  have h1 := getD'_eq hc
  have h2 := getD'_eq h1.2
  have rsx : RS X.K H2 ((some x, arM a) :: (((some y, arM c) :: G) ++ σ.zip S2)) := rs2.swap
  obtain ⟨p, dx, fs, rfl, hp⟩ := RS.insAt l2 ok1 rsx h1.1
  obtain ⟨q, dy, gs, rfl, hq⟩ := RS.insAt l2 ok2 rs2 h2.1
  refine ⟨p, q, dx, dy, fs, gs, rfl, rfl, hp, hq, ?_⟩
  have sp := spOf_of (W := W0) (R := blR neg R) (XR := X0) (as := [a, c]) (vs := [.ref p, .ref q]) (Q := fun v H' => ∃ k, v = .bl k ∧ ∃ k2, V.bl k = .bl k2 ∧ Q (.bl (ngB neg k2)) H') l2 ⟨ok1, ok2, trivial⟩ rsx h2.2
    (fun r S3 v H3 l3 h3 rs3 => by
      unfold blR at h3
      split at h3
      · rename_i k
        obtain ⟨O, f1, n, hm, _⟩ := RS.one rs3
        cases Option.some.inj hm.bl
        exact ⟨k, rfl, k, rfl, hQ _ S3 _ H3 l3 h3 (rs3.drop.bl _)⟩
      · exact h3.elim)
    (fun c fs S' d H' l' hx xo => hx.elim)
  exact sp
theorem de_eqO {n : Nat} {C f : Addr} {fd : FuncData} {ps : List Str} {m : FM} {a b : Expr} {fa fb : FO} {pos : Pos} (Fk : FnOk X.prog X.w X.K X.mg X.base (L2.CX X.prog X.w) n f fd ps (spOf X.K 2 m)) (hr : Room n X.A) (hs : PySem.W.findIn X.K (.ref C) "__eq__" = some (some (.ref f))) (hf : PySem.W.isFn X.K (.ref f) = true) (hb : Binds X.K fd ps [])
    (ha : DO X W a fa) (hbb : DO X W b fb) (hm : behindInMarks .Eq b = false := by rfl) : DE X W (.Compare a [.Eq] [b] pos) (fEqO false C m fa fb) :=
  ⟨pe_le (pe_cmpR (op_eqO (C := C) Fk hr hs hf hb) ha.pe hbb.pe hm) fun σ H Q h => tDO_mono (eqO_of h) fun x H1 q => tDO_mono q fun y H2 q => by
    obtain ⟨p, q', dx, dy, fs, gs, e1, e2, h1, h2, h3⟩ := q
    refine ⟨p, q', dx, dy, fs, gs, e1, e2, h1, h2, ?_⟩
    obtain ⟨hl, G, ms, R, XR, l, rs, hm, hq, hx⟩ := h3
    exact ⟨hl, G, ms, R, XR, l, rs, hm, fun r ms' v H' hr rs' => by
      obtain ⟨k, rfl, k2, e, z⟩ := hq r ms' v H' hr rs'
      cases e
      exact ⟨k, rfl, z⟩, hx⟩⟩
theorem de_neO {n : Nat} {C f : Addr} {fd : FuncData} {ps : List Str} {m : FM} {a b : Expr} {fa fb : FO} {pos : Pos} (Fk : FnOk X.prog X.w X.K X.mg X.base (L2.CX X.prog X.w) n f fd ps (spOf X.K 2 m)) (hr : Room (n + 1) X.A) (hs : PySem.W.findIn X.K (.ref C) "__eq__" = some (some (.ref f))) (hf : PySem.W.isFn X.K (.ref f) = true)
    (hn : PySem.W.findIn X.K (.ref C) "__ne__" = some (some (.builtin "object.__ne__"))) (ho : PySem.W.mroIn X.K C (.type "object") = some true) (hb : Binds X.K fd ps []) (ha : DO X W a fa) (hbb : DO X W b fb) (hm : behindInMarks .NotEq b = false := by rfl) : DE X W (.Compare a [.NotEq] [b] pos) (fEqO true C m fa fb) :=
  ⟨pe_le (pe_cmpR (op_neO (C := C) Fk hr hs hf hn ho hb) ha.pe hbb.pe hm) fun σ H Q h => tDO_mono (eqO_of h) fun x H1 q => tDO_mono q fun y H2 q => q⟩
theorem tOf_tD {K : PySem.W.Frag} {F : FE} {σ : L2.St} {H : Hp} {Q : Bool → Hp → Prop} (h : tDT K W (tOf F) σ H Q) : tD K W F σ H fun v H' => ∃ b, v = .bl b ∧ Q b H' := by
  obtain ⟨G, S, R, XR, l, rs, hF, hQ, hX⟩ := h
  refine ⟨G, S, _, XR, l, rs, hF, fun a S1 x H1 l1 hb rs1 => ?_, hX⟩
  obtain ⟨b, e, k⟩ := RS.asB rs1 hb
  exact ⟨b, e, hQ b S1 H1 l1 k rs1.drop⟩
theorem dt_eqO {n : Nat} {C f : Addr} {fd : FuncData} {ps : List Str} {m : FM} {a b : Expr} {fa fb : FO} {pos : Pos} (Fk : FnOk X.prog X.w X.K X.mg X.base (L2.CX X.prog X.w) n f fd ps (spOf X.K 2 m)) (hr : Room n X.A) (hs : PySem.W.findIn X.K (.ref C) "__eq__" = some (some (.ref f))) (hf : PySem.W.isFn X.K (.ref f) = true) (hb : Binds X.K fd ps [])
    (ha : DO X W a fa) (hbb : DO X W b fb) (hm : behindInMarks .Eq b = false := by rfl) : DT X W (.Compare a [.Eq] [b] pos) (tOf (fEqO false C m fa fb)) :=
  ⟨pt_le (pt_cmpR (op_eqO (C := C) Fk hr hs hf hb) ha.pe hbb.pe hm) fun σ H Q h => tDO_mono (eqO_of (tOf_tD h)) fun x H1 q => tDO_mono q fun y H2 q => by
    obtain ⟨p, q', dx, dy, fs, gs, e1, e2, h1, h2, h3⟩ := q
    refine ⟨p, q', dx, dy, fs, gs, e1, e2, h1, h2, ?_⟩
    obtain ⟨hl, G, ms, R, XR, l, rs, hm, hq, hx⟩ := h3
    exact ⟨hl, G, ms, R, XR, l, rs, hm, fun r ms' v H' hr rs' => by
      obtain ⟨k, rfl, k2, e, z⟩ := hq r ms' v H' hr rs'
      cases e
      exact ⟨k, rfl, z⟩, hx⟩⟩
theorem dt_neO {n : Nat} {C f : Addr} {fd : FuncData} {ps : List Str} {m : FM} {a b : Expr} {fa fb : FO} {pos : Pos} (Fk : FnOk X.prog X.w X.K X.mg X.base (L2.CX X.prog X.w) n f fd ps (spOf X.K 2 m)) (hr : Room (n + 1) X.A) (hs : PySem.W.findIn X.K (.ref C) "__eq__" = some (some (.ref f))) (hf : PySem.W.isFn X.K (.ref f) = true)
    (hn : PySem.W.findIn X.K (.ref C) "__ne__" = some (some (.builtin "object.__ne__"))) (ho : PySem.W.mroIn X.K C (.type "object") = some true) (hb : Binds X.K fd ps []) (ha : DO X W a fa) (hbb : DO X W b fb) (hm : behindInMarks .NotEq b = false := by rfl) : DT X W (.Compare a [.NotEq] [b] pos) (tOf (fEqO true C m fa fb)) :=
  ⟨pt_le (pt_cmpR (op_neO (C := C) Fk hr hs hf hn ho hb) ha.pe hbb.pe hm) fun σ H Q h => tDO_mono (eqO_of (tOf_tD h)) fun x H1 q => tDO_mono q fun y H2 q => q⟩
/-- isinstance(x, C), x an instance of C -/
def fIsO (C : Addr) (fo : FO) : FE := fun S R XR => fo S (fun a S1 => getD' a S1 fun x => insC C x ∧ R (.v (.bl true)) S1) XR
theorem de_isO {C : Addr} {e : Expr} {fo : FO} {t : Str} {p pt pos : Pos} (c : C8.InsC X.K C) (hg : Gl X "isinstance") (hm : X.mg "isinstance" = none) (ho : DO X W e fo) (hgt : Gl X t) (hmt : X.mg t = some (.ref C))
    (hd : (t == ("__debug__" : Str)) = false := by decide) (hv : bootBuiltins "isinstance" = some (.builtin "isinstance") := by decide +kernel)
    (he : starEach [e, .Name t pt] X.env = (false, eval e X.env) :: starEach [.Name t pt] X.env := by rfl) (hpl : (backTo pos (starEach [.Name t pt] X.env)).any (·.1) = false := by rfl) (he2 : starEach [.Name t pt] X.env = (false, eval (.Name t pt) X.env) :: starEach [] X.env := by rfl) :
    DE X W (.Call (.Name "isinstance" p) [e, .Name t pt] [] pos) (fIsO C fo) :=
  ⟨pe_le (pe_callB (C8.call_isC c) hg hm hv (pa_cons ho.pe (pa_cons (C8.pe_gc (v := .ref C) hgt ⟨_, hmt, rfl⟩ hd) pa_nil he2) he) (by decide) (by decide) he hpl) fun σ H Q h => by
    obtain ⟨G, S, R, XR, l, rs, hF, hQ, hX⟩ := h
    refine ⟨G, S, _, XR, l, rs, hF, fun a S1 v H1 l1 h1 ok1 rs1 => ?_, hX⟩
    have h1 := getD'_eq h1
    obtain ⟨b, dx, fs, rfl, hb⟩ := RS.insAt l1 ok1 rs1 h1.1
    exact ⟨b, dx, fs, rfl, hb, hQ _ S1 _ H1 l1 h1.2 (rs1.drop.bl _)⟩⟩
/-- a statement, then the rest, with a word between: what follows is shown once -/
def sCut (f g : FS) : FS := fun E S => ∃ P : List M → Prop, f { E with nx := P } S ∧ ∀ S', P S' → g E S'
theorem dss_cut {mask : List Bool} {st : Stmt} {rest : List Stmt} {f g : FS} (h1 : DS X W mask st f) (h2 : DSs X W mask rest g) : DSs X W mask (st :: rest) (sCut f g) := ⟨pss_le (C8.pss_cut h1.ps h2.ps) fun D σ H h => by
  obtain ⟨G, S, E, l, rs, ⟨P, hF, hP⟩, nx, rt, bk, ct, ex⟩ := h
  refine ⟨fun σ' H' => ∃ S', Ag mask σ σ' ∧ σ'.length = S'.length ∧ P S' ∧ RS X.K H' (G ++ σ'.zip S'), ⟨G, S, _, l, rs, hF, fun S' σ' H' ag l' hp rs' => ⟨S', ag, l', hp, rs'⟩, rt, bk, ct, ex⟩, fun σ' H' z => ?_⟩
  obtain ⟨S', ag, l', hp, rs'⟩ := z
  exact ⟨G, S', E, l', rs', hP S' hp, fun S2 σ2 H2 ag2 l2 h2 rs2 => nx S2 σ2 H2 (ag.trans ag2) l2 h2 rs2, fun m S2 v σ2 H2 ag2 l2 h2 rs2 => rt m S2 v σ2 H2 (ag.trans ag2) l2 h2 rs2, fun S2 σ2 H2 ag2 l2 h2 rs2 => bk S2 σ2 H2 (ag.trans ag2) l2 h2 rs2, fun S2 σ2 H2 ag2 l2 h2 rs2 => ct S2 σ2 H2 (ag.trans ag2) l2 h2 rs2, fun c fs S2 d σ2 H2 ag2 l2 h2 rs2 => ex c fs S2 d σ2 H2 (ag.trans ag2) l2 h2 rs2⟩⟩
end
end DM

/-! The caught error: its class asked. -/
namespace DM
open PySem PySem.Spec PyProof.Rows
open L2
variable [Tabs]
section
variable {X : Cx}
/-- isinstance(e, c) of the caught e in slot i; t: the answers by the error's class -/
def fIsX (i : Nat) (t : List (Value × Bool)) (a : Addr) (d : Option Addr) (cls : Value) : FE := fun S R _ => getK S i (fun m => m = .v (.ptr a) ∧ d = none ∧ exK t cls fun b => R (.v (.bl b)) S) False
theorem exK_mem {x : Value} {k : Bool → Prop} : ∀ {t : List (Value × Bool)}, exK t x k → ∃ p ∈ t, x = p.1 ∧ k p.2
  | [], h => h.elim
  | p :: t, h => by
    rcases h with ⟨e, h⟩ | h
    · exact ⟨p, List.mem_cons_self, e, h⟩
    · obtain ⟨q, hq, z⟩ := exK_mem h
      exact ⟨q, List.mem_cons_of_mem _ hq, z⟩
theorem de_isX {i : Nat} {t : List (Value × Bool)} {a C : Addr} {oe : Obj} {cls : Value} {d : Option Addr} {pn : List (Addr × Obj)} {x y : Str} {p p1 p2 pos : Pos} (hz : Zc cls d oe) (hf : ∃ vs, oe.data = .fields vs)
    (ht : ∀ q ∈ t, ∃ D, q.1 = .ref D ∧ ExcC X.K D ∧ PySem.W.kitOne X.K (.ref D) (.ref C) = some q.2) (hN : X.N[i]? = some x) (hv : Vis X.env.scope x) (hg : Gl X "isinstance") (hm : X.mg "isinstance" = none) (hgy : Gl X y) (hmy : X.mg y = some (.ref C))
    (hd : (x == ("__debug__" : Str)) = false := by decide) (hcd : (x == ("__classdict__" : Str)) = false := by decide) (hdy : (y == ("__debug__" : Str)) = false := by decide) (hb : bootBuiltins "isinstance" = some (.builtin "isinstance") := by decide +kernel)
    (he : starEach [.Name x p1, .Name y p2] X.env = (false, eval (.Name x p1) X.env) :: starEach [.Name y p2] X.env := by rfl) (hpl : (backTo pos (starEach [.Name y p2] X.env)).any (·.1) = false := by rfl) (he2 : starEach [.Name y p2] X.env = (false, eval (.Name y p2) X.env) :: starEach [] X.env := by rfl) :
    DE (X.suite a ((a, oe) :: pn)) W0 (.Call (.Name "isinstance" p) [.Name x p1, .Name y p2] [] pos) (fIsX i t a d cls) := by
  refine ⟨⟨fun pins s σ H Q I h => ?_⟩⟩
  obtain ⟨G, S, R, XR, l, rs, hF, hQ, hX⟩ := h
  unfold fIsX at hF
  cases e : S[i]? with
  | none =>
    rw [getK_none e] at hF
    exact hF.elim
  | some m =>
    rw [getK_some e] at hF
    obtain ⟨rfl, rfl, hk⟩ := hF
    obtain ⟨q, hq, ec0, hk2⟩ := exK_mem hk
    subst ec0
    obtain ⟨D, e1, ec, ek⟩ := ht q hq
    rw [e1] at hz
    obtain ⟨x', e2, r1⟩ := rs.copy l e
    obtain ⟨O, f1, n, hm1, _⟩ := RS.one r1
    cases hm1 with
    | v hm1 =>
      cases hm1
      have pe := pe_callB (p := p) (X := X.suite a ((a, oe) :: pn)) (call_isE ec hz hf) hg hm hb (pa_cons (pe_var hN hv hd hcd) (pa_cons (C8.pe_gc (v := .ref C) hgy ⟨_, hmy, rfl⟩ hdy) pa_nil he2) he) (by decide) (by decide) he hpl
      exact pe.run pins s σ H Q I ⟨_, e2, _, _, _, rfl, fun u z => z, ek, hQ _ S _ H l hk2 (rs.bl _)⟩
end
end DM

/-! More methods of lists. -/
namespace DM
open PySem PySem.Spec PyProof.Rows
open L2
variable [Tabs]
section
variable {X : Cx}
def insertB : BM := fun ms R => match ms with
  | [.ml ds, .v (.int i), e] => asD e fun d => ds.length < sizeLine ∧ 0 ≤ i ∧ i < 2 ^ 63 ∧ R (.v .non) [.ml (ds.take i.toNat ++ [d] ++ ds.drop i.toNat), .v (.int i), .v d]
  | _ => False
theorem m_insert : MtR X "list.insert" (fun x vs H Q => rB X.K insertB (x :: vs) H Q) := mtR_of mt_insert fun x vs H Q h => by
  obtain ⟨L, ms, R, l, rs, hb, hQ⟩ := h
  unfold insertB at hb
  split at hb
  · rename_i ds i e
    obtain ⟨w, y, rfl⟩ := two_of (Nat.succ.inj l)
    have rs0 : RS X.K H ((some y, e) :: (some x, .ml ds) :: (some w, .v (.int i)) :: L) := RS.perm ((List.Perm.cons _ (.swap _ _ _)).trans (.swap _ _ _)) rs
    obtain ⟨d, ⟨z1, z2, z3, hr⟩, rs1⟩ := RS.asD rs0 hb
    obtain ⟨a, ws, e1, hH, hl, O, n, r1, r2, st, put⟩ := RS.ml2 rs1.swap
    cases e1
    obtain ⟨_, q1⟩ := r2.tl
    obtain ⟨_, q2⟩ := q1.tl
    obtain ⟨v', e2, h2⟩ := q1.hd
    obtain ⟨i', e3, h3⟩ := q2.hd
    cases e2
    cases e3
    cases h3
    refine ⟨a, ws, i, y, rfl, rfl, hH, by rw [hl]; exact z1, z2, z3, hQ _ _ _ _ hr ?_⟩
    have q : RS X.K (upd H a (.lst (ws.take i.toNat ++ [y] ++ ws.drop i.toNat))) ((some (.ref a), .ml (ds.take i.toNat ++ [d] ++ ds.drop i.toNat)) :: (some y, .v d) :: (some (.int i), .v (.int i)) :: L) :=
      ⟨O, n, put _ _ (((r1.take _).append (.cons h2 .nil)).append (r1.drop _))⟩
    have q2 : RS X.K (upd H a (.lst (ws.take i.toNat ++ [y] ++ ws.drop i.toNat))) ((some (.ref a), .ml (ds.take i.toNat ++ [d] ++ ds.drop i.toNat)) :: (some (.int i), .v (.int i)) :: (some y, .v d) :: L) := RS.perm (List.Perm.cons _ (.swap _ _ _)) q
    exact q2.val fun _ => .non
  · exact hb.elim
end
end DM

/-! A list of one's own walked, and had again behind the walk. -/
namespace DM
open PySem PySem.Spec PyProof.Rows
open L2
variable [Tabs]
section
variable {X : Cx} {W : WX} {mask : List Bool}
def lendE (i : Nat) (m : M) (E : EM) : EM := { nx := fun S => setK S i m E.nx, rt := fun r S => setK S i m (E.rt r), bk := fun _ => False, ct := fun _ => False, ex := fun x S => setK S i m (E.ex x) }
def sForN (i : Nat) (g : FG) (b : FS) : FS := fun E S => getK S i (fun m => ∃ ds, lsV m = some ds ∧ setK S i .gone fun S0 => ForL g b (lendE i m E) ds S0) False
theorem Ag.sub {mask mask' : List Bool} {σ σ' : L2.St} (h : Ag mask' σ σ') (hs : ∀ j : Nat, mask[j]? = some true → mask'[j]? = some true) : Ag mask σ σ' := ⟨h.len, fun j hj => h.same j (hs j hj)⟩
theorem RS.lent {K : PySem.W.Frag} {H : Hp} {G L1 : List Pr} {σ : L2.St} {S : List M} {i : Nat} {v : V} {m : M} (rs : RS K H (L1 ++ ((some v, m) :: (G ++ σ.zip S)))) (l : σ.length = S.length) (e : σ[i]? = some (some v)) : RS K H (L1 ++ (G ++ σ.zip (S.set i m))) := by
  have r1 : RS K H ((some v, m) :: ((L1 ++ G) ++ σ.zip S)) := by
    have p := RS.perm (perm_mid L1 (G ++ σ.zip S) (some v, m)) rs
    rw [List.append_assoc]
    exact p
  have r2 := RS.put' (i := i) r1 l
  rw [set_get e, List.append_assoc] at r2
  exact r2
theorem ds_forN {mask' : List Bool} {i : Nat} {x : Str} {tg : Expr} {body : List Stmt} {g : FG} {f : FS} {p pos : Pos} (hp : PassesOwn (model X.prog X.w) X.A X.env X.xe) (hc : X.calm = true) (hmi : mask'[i]? = some true) (hsub : ∀ j : Nat, mask[j]? = some true → mask'[j]? = some true) (hg : DG X W mask' tg g) (hb : DSs X W mask' body f)
    (hN : X.N[i]? = some x := by rfl) (hv : Vis X.env.scope x := by first | exact Or.inl rfl | exact Or.inr (Or.inl rfl) | exact Or.inr (Or.inr rfl)) (hd : (x == ("__debug__" : Str)) = false := by decide) (hcd : (x == ("__classdict__" : Str)) = false := by decide)
    (hs : ∀ z, foldedSetIterable (.Name x p) X.env z = pure z := by intro _; rfl) : DS X W mask (.For tg (.Name x p) body [] pos) (sForN i g f) := ⟨ps_le (ps_for hp hc (pi_any (pe_var hN hv hd hcd)) hg.pg hb.ps hs) fun D σ H h => by
  obtain ⟨G, S, E, l, rs, hF, nx, rt, bk, ct, ex⟩ := h
  unfold sForN at hF
  cases e : S[i]? with
  | none =>
    rw [getK_none e] at hF
    exact hF.elim
  | some m =>
    rw [getK_some e] at hF
    obtain ⟨ds, em, hF⟩ := hF
    rw [setK_eq] at hF
    obtain ⟨x0, e1, r1⟩ := rs.take l e
    obtain ⟨O, f1, n, hm1, _⟩ := RS.one r1
    obtain ⟨a, vs, e2, s1, _⟩ := hm1.ls em
    subst e2
    have sv := serve_list (K := X.K) (a := a) em
    refine ⟨.ref a, e1, .inl ⟨a, rfl, ⟨vs, s1⟩, ?_⟩⟩
    have l0 : σ.length = (S.set i .gone).length := by rw [List.length_set]; exact l
    have at_ : ∀ {σ' : L2.St}, Ag mask' σ σ' → σ'[i]? = some (some (.ref a)) := fun ag => (ag.same i hmi).trans e1
    refine ⟨fun j n σ' H' => ∃ S', Ag mask' σ σ' ∧ σ'.length = S'.length ∧ RS X.K H' ((some (.ref a), m) :: (G ++ σ'.zip S')) ∧ j + n = ds.length ∧ forL g f (lendE i m E) (ds.drop j) S', ⟨ds.length, S.set i .gone, Ag.refl σ, l0, r1, Nat.zero_add _, hF.go⟩, fun j n σ1 H1 hW => ?_⟩
    obtain ⟨S1, ag1, l1, rs1, en, h1⟩ := hW
    obtain ⟨t1, t2⟩ := sv j H1 _ rs1
    cases eg : ds[j]? with
    | none =>
      have hl : ds.length ≤ j := List.getElem?_eq_none_iff.mp eg
      rw [List.drop_eq_nil_of_le hl] at h1
      have h1 : setK S1 i m E.nx := h1
      rw [setK_eq] at h1
      exact .inl ⟨t2 hl, nx _ σ1 H1 (ag1.sub hsub) (by rw [List.length_set]; exact l1) h1 (RS.lent (L1 := []) rs1 l1 (at_ ag1))⟩
    | some d =>
      have hl : j < ds.length := (List.getElem?_eq_some_iff.mp eg).1
      rw [List.drop_eq_getElem_cons hl, (List.getElem?_eq_some_iff.mp eg).2] at h1
      obtain ⟨g1, g2⟩ := t1 d eg
      refine .inr ⟨g1, fun σ' H' => ∃ S', Ag mask' σ σ' ∧ σ'.length = S'.length ∧ RS X.K H' ((some (.ref a), m) :: (G ++ σ'.zip S')) ∧ forL g f (lendE i m E) (ds.drop (j + 1)) S', fun σ' H' ⟨S', z1, z2, z3, z4⟩ => ⟨n - 1, by omega, S', z1, z2, z3, by omega, z4⟩, fun y H2 hy => ?_⟩
      have rs2 : RS X.K H2 ((some y, .v d) :: (((some (.ref a), m) :: G) ++ σ1.zip S1)) := g2 y H2 hy
      have back : ∀ {Ex : EX → List M → Prop} (c : Value) (fs : Option (List (Str × DM.D))) (S' : List M) (dd : Option Addr) (σ' : L2.St) (H' : Hp), Ag mask' σ σ' → σ'.length = S'.length → setK S' i m (E.ex (c, fs)) → XOk X.K H' dd fs (((some (.ref a), m) :: G) ++ σ'.zip S') → W c dd σ' H' := fun c fs S' dd σ' H' ag l' hx xo => by
        rw [setK_eq] at hx
        exact ex c fs _ dd σ' H' (ag.sub hsub) (by rw [List.length_set]; exact l') hx (xo.imp fun L1 r => RS.lent r l' (at_ ag))
      refine ⟨(some (.ref a), m) :: G, S1, .v d, _, _, l1, rs2, h1, fun S2 σ2 H3 ag2 l2 h2 rs3 => ?_, fun c fs S' dd σ' H' ag l' hx xo => back (Ex := E.ex) c fs S' dd σ' H' (ag1.trans ag) l' hx xo⟩
      have ag12 := ag1.trans ag2
      refine ⟨(some (.ref a), m) :: G, S2, _, l2, rs3, h2, fun S' σ' H' ag l' hn rs' => ⟨S', ag12.trans ag, l', rs', hn⟩, fun r S' v σ' H' ag l' hr rs' => ?_, fun S' σ' H' ag l' hn rs' => ?_, fun S' σ' H' ag l' hn rs' => ⟨S', ag12.trans ag, l', rs', hn⟩, fun c fs S' dd σ' H' ag l' hx xo => back (Ex := E.ex) c fs S' dd σ' H' (ag12.trans ag) l' hx xo⟩
      · have hr : setK S' i m (E.rt r) := hr
        rw [setK_eq] at hr
        exact rt r _ v σ' H' ((ag12.trans ag).sub hsub) (by rw [List.length_set]; exact l') hr (RS.lent (L1 := [(some v, r)]) rs' l' (at_ (ag12.trans ag)))
      · have hn : setK S' i m E.nx := hn
        rw [setK_eq] at hn
        exact nx _ σ' H' ((ag12.trans ag).sub hsub) (by rw [List.length_set]; exact l') hn (RS.lent (L1 := []) rs' l' (at_ (ag12.trans ag)))⟩
/-! ### comprehensions -/
def fLcN (i : Nat) (g : FG) (tt : FT) (te : FE) (own : List Nat) : FE := fun S R _ => getK S i (fun m => ∃ ds, lsV m = some ds ∧ setK S i .gone fun S0 => LcL g tt te own (fun acc S' => setK (restM S0 own S') i m fun S2 => R (.ml acc) S2) ds [] (wipeM S0 own)) False
def wiN (K : PySem.W.Frag) (i : Nat) : TI := fun σ H R => tVar i σ H fun x H1 => (∃ a, x = .ref a ∧ (∃ xs, SqL K H1 a xs) ∧ R (Itl K a) H1) ∨ (∃ a, x = .ref a ∧ (∃ xs, SqT K H1 a xs) ∧ R (Itt K a) H1) ∨ ∃ y, x = .str y ∧ R (Its y) H1
theorem lc_readN {K : PySem.W.Frag} {W : WX} {i : Nat} {g : FG} {tt : FT} {te : FE} {own : List Nat} {mk : List Bool} {σ : L2.St} {H : Hp} {Q : VK} (hm : maskOk σ.length own mk = true) (h : tD K W (fLcN i g tt te own) σ H Q) :
    tLc (wiN K i) (tDG K W0 mk g) (tDT K W0 tt) (tD K W0 te) own σ H Q := by
  obtain ⟨G, S, R, XR, l, rs, hF, hQ, hX⟩ := h
  unfold fLcN at hF
  cases e : S[i]? with
  | none =>
    rw [getK_none e] at hF
    exact hF.elim
  | some m =>
    rw [getK_some e] at hF
    obtain ⟨ds, em, hF⟩ := hF
    rw [setK_eq] at hF
    obtain ⟨x0, e1, r1⟩ := rs.take l e
    obtain ⟨O, f1, n, hm1, _⟩ := RS.one r1
    obtain ⟨a, vs, e2, s1, _⟩ := hm1.ls em
    subst e2
    have l0 : σ.length = (S.set i .gone).length := by rw [List.length_set]; exact l
    refine ⟨.ref a, e1, .inl ⟨a, rfl, ⟨vs, s1⟩, ?_⟩⟩
    exact lc_core (H := H) (R := fun r S' => setK S' i m fun S2 => R r S2) (P := [(some (.ref a), m)]) hm l0 hF (serve_list em) r1 fun r S' v H' l' hr rs' => by
      have hr : setK S' i m (fun S2 => R r S2) := hr
      rw [setK_eq] at hr
      exact hQ r _ v H' (by rw [List.length_set]; exact l') hr (RS.lent (L1 := [(some v, r)]) (RS.swap rs') l' e1)
end
section
variable {X : Cx} {W : WX}
theorem de_lcN {i : Nat} {x : Str} {elt tg : Expr} {ifs : List Expr} {scope : Scope} {own : List (Str × Nat)} {p pos : Pos} {g : FG} {tt : FT} {te : FE} {mask : List Bool} (hc : X.calm = true) (hN : X.N.Nodup) (ok : BlkOk X.N X.env.scope scope own)
    (hg : ∀ (s : Shared) (H : Hp) (C : Addr) (cl : List (Str × Addr)) (fp : List Addr), DG (X.blk s H scope (compEnvC scope cl C X.env) fp) W0 mask tg g)
    (ht : ∀ (s : Shared) (H : Hp) (C : Addr) (cl : List (Str × Addr)) (fp : List Addr), DTs (X.blk s H scope (compEnvC scope cl C X.env) fp) W0 ifs tt)
    (he : ∀ (s : Shared) (H : Hp) (C : Addr) (cl : List (Str × Addr)) (fp : List Addr), DE (X.blk s H scope (compEnvC scope cl C X.env) fp) W0 elt te) (hmk : maskOk X.N.length (own.map (·.2)) mask = true := by rfl) (hs : ∀ z, foldedSetIterable (.Name x p) X.env z = pure z := by intro _; rfl)
    (hNi : X.N[i]? = some x := by rfl) (hv : Vis X.env.scope x := by first | exact Or.inl rfl | exact Or.inr (Or.inl rfl) | exact Or.inr (Or.inr rfl)) (hd : (x == ("__debug__" : Str)) = false := by decide) (hcd : (x == ("__classdict__" : Str)) = false := by decide) :
    DE X W (.ListComp elt [⟨tg, .Name x p, ifs, 0⟩] scope pos) (fLcN i g tt te (own.map (·.2))) :=
  ⟨⟨fun pins s σ H Q I h => (pe_lc (wi := wiN X.K i) (g := tDG X.K W0 mask g) (tt := tDT X.K W0 tt) (te := tD X.K W0 te) hc hN (pi_any (pe_var hNi hv hd hcd)) ok (fun s H C cl fp => (hg s H C cl fp).pg) (fun s H C cl fp => (ht s H C cl fp).pts) (fun s H C cl fp => (he s H C cl fp).pe) hs).run pins s σ H Q I
    (lc_readN (W := W) (by rw [I.len]; exact hmk) h)⟩⟩
theorem ds_setLcN {i j : Nat} {x y : Str} {py p : Pos} {elt tg : Expr} {ifs : List Expr} {scope : Scope} {own : List (Str × Nat)} {pos spos : Pos} {g : FG} {tt : FT} {te : FE} {mask m0 : List Bool} (hc : X.calm = true) (hN : X.N.Nodup) (hy : X.N[j]? = some y) (hyl : X.env.scope.names.lookup y = some .local)
    (hsw : swapsWith (.ListComp elt [⟨tg, .Name x p, ifs, 0⟩] scope pos) (some (.Name y py)) spos.line X.env = pure true) (ok : BlkOk X.N X.env.scope scope own)
    (hg : ∀ (s : Shared) (H : Hp) (C : Addr) (cl : List (Str × Addr)) (fp : List Addr), DG (X.blk s H scope (compEnvC scope cl C X.env) fp) W0 mask tg g)
    (ht : ∀ (s : Shared) (H : Hp) (C : Addr) (cl : List (Str × Addr)) (fp : List Addr), DTs (X.blk s H scope (compEnvC scope cl C X.env) fp) W0 ifs tt)
    (he : ∀ (s : Shared) (H : Hp) (C : Addr) (cl : List (Str × Addr)) (fp : List Addr), DE (X.blk s H scope (compEnvC scope cl C X.env) fp) W0 elt te) (hmk : maskOk X.N.length (own.map (·.2)) mask = true := by rfl) (hm : m0[j]? ≠ some true := by decide) (hs : ∀ z, foldedSetIterable (.Name x p) X.env z = pure z := by intro _; rfl)
    (hNi : X.N[i]? = some x := by rfl) (hv : Vis X.env.scope x := by first | exact Or.inl rfl | exact Or.inr (Or.inl rfl) | exact Or.inr (Or.inr rfl)) (hd : (x == ("__debug__" : Str)) = false := by decide) (hcd : (x == ("__classdict__" : Str)) = false := by decide) :
    DS X W m0 (.Assign [.Name y py] (.ListComp elt [⟨tg, .Name x p, ifs, 0⟩] scope pos) spos) (sSet j (fLcN i g tt te (own.map (·.2)))) :=
  ⟨⟨fun pins s σ H D I h => (ps_setLc (wi := wiN X.K i) (g := tDG X.K W0 mask g) (tt := tDT X.K W0 tt) (te := tD X.K W0 te) hc hN hy hyl hsw (pi_any (pe_var hNi hv hd hcd)) ok (fun s H C cl fp => (hg s H C cl fp).pg) (fun s H C cl fp => (ht s H C cl fp).pts) (fun s H C cl fp => (he s H C cl fp).pe) hs).run pins s σ H D I (by
    obtain ⟨G, S, E, l, rs, hF, nx, rt, bk, ct, ex⟩ := h
    refine lc_readN (W := W) (mk := mask) (by rw [I.len]; exact hmk) ?_
    exact ⟨G, S, _, E.ex, l, rs, hF, fun m S' v H' l' hmm rs' => nx _ _ H' (Ag.set _ hm) (by rw [List.length_set, List.length_set]; exact l') (Eq.mp (setK_eq _ _ _ _) hmm) (rs'.put' l'), fun c fs S' d H' l' hx xo => ex c fs S' d σ H' (Ag.refl σ) l' hx xo⟩)⟩⟩
end
def subM : List Bool → List Bool → Bool
  | [], _ => true
  | true :: a, true :: b => subM a b
  | false :: a, _ :: b => subM a b
  | false :: a, [] => subM a []
  | true :: _, _ => false
theorem subM_ok : ∀ {a b : List Bool}, subM a b = true → ∀ j : Nat, a[j]? = some true → b[j]? = some true
  | [], _, _, _, h => by cases h
  | true :: a, true :: b, _, 0, _ => rfl
  | true :: a, true :: b, h, j + 1, g => subM_ok (a := a) (b := b) h j g
  | true :: _, false :: _, h, _, _ => nomatch h
  | true :: _, [], h, _, _ => nomatch h
  | false :: a, _ :: b, _, 0, g => by cases g
  | false :: a, _ :: b, h, j + 1, g => subM_ok (a := a) (b := b) h j g
  | false :: a, [], _, 0, g => by cases g
  | false :: a, [], h, j + 1, g => by
    have q := subM_ok (a := a) (b := []) h j g
    cases q
/-! ### a, b = e1, e2 -/
section
variable {X : Cx} {W : WX} {mask : List Bool}
def sPar (i j : Nat) (f : FA) : FS := fun E S => f S (fun ms S' => match ms with
  | [m, n] => setK S' i m fun S2 => setK S2 j n E.nx
  | _ => False) E.ex
theorem ds_par {i j : Nat} {x y : Str} {a b : Expr} {f : FA} {px py pt pos : Pos} {kt k2 pt2} (hc : X.calm = true) (hN : X.N.Nodup) (hi : X.N[i]? = some x) (hj : X.N[j]? = some y) (hij : i ≠ j) (hx : X.env.scope.names.lookup x = some .local) (hy : X.env.scope.names.lookup y = some .local) (ha : DA X W [a, b] f)
    (hw : swappedStores [.Tuple [.Name x px, .Name y py] kt pt] (.Tuple [a, b] k2 pt2) X.env = pure (some [x, y])) (hmi : mask[i]? ≠ some true := by decide) (hmj : mask[j]? ≠ some true := by decide)
    (hs : swapsWithSole [.Tuple [.Name x px, .Name y py] kt pt] (.Tuple [a, b] k2 pt2) pos.line X.env = pure false := by rfl) : DS X W mask (.Assign [.Tuple [.Name x px, .Name y py] kt pt] (.Tuple [a, b] k2 pt2) pos) (sPar i j f) :=
  ⟨ps_le (ps_par hc hN hi hj hij hx hy ha.pa hw hs) fun D σ H h => by
    obtain ⟨G, S, E, l, rs, hF, nx, rt, bk, ct, ex⟩ := h
    refine ⟨G, S, _, E.ex, l, rs, hF, fun ms S' vs H' l' lv hm rs' => ?_, fun c fs S' d H' l' hx xo => ex c fs S' d σ H' (Ag.refl σ) l' hx xo⟩
    split at hm
    · rename_i m n
      obtain ⟨v, w, rfl⟩ := two_of lv
      rw [setK_eq, setK_eq] at hm
      have r0 : RS X.K H' ((some v, m) :: (((some w, n) :: G) ++ σ.zip S')) := rs'
      have r1 : RS X.K H' ((some w, n) :: (G ++ (σ.set i (some v)).zip (S'.set i m))) := RS.put' r0 l'
      have l1 : (σ.set i (some v)).length = (S'.set i m).length := by rw [List.length_set, List.length_set]; exact l'
      exact ⟨v, w, rfl, nx _ _ H' ((Ag.set _ hmi).trans (Ag.set _ hmj)) (by rw [List.length_set, List.length_set, List.length_set, List.length_set]; exact l') hm (RS.put' r1 l1)⟩
    · exact hm.elim⟩
end
end DM

/-! all(..), any(..) of a generator expression: the element is any expression that the frame may work out. -/
namespace DM
open PySem PySem.Spec PyProof.Rows
open L2 GenW

/-- the frame of a generator expression -/
abbrev gxC (X : Cx) (s : Shared) (H : Hp) (scope : Scope) (cenv : Env) (fp : List Addr) (B : Around) (pn : List (Addr × Obj)) : Cx := { X.blk s H scope cenv fp with stack := cenv :: X.stack, A := B.deeper cenv, pn := pn }

theorem over_gen {B : Around} {elt target iter : Expr} {ifs : List Expr} {scope : Scope} {pos : Pos} {it : Value} {cenv : Env} : B.over (.compLoop (.GeneratorExp elt [⟨target, iter, ifs, 0⟩] scope pos) 0 it .none cenv) [] = B.deeper cenv := by
  first
    | rfl
    | (obtain ⟨hd, d, fr, gs, u⟩ := B; simp [Around.over, Around.deeper, marksOver, frameCount, unitsOf, envsOf, guardsOf, pushEnvs, pushGuards, Code.envs, Code.env?, Code.isFrame, Code.guards, Code.isGuard, Code.weight, Code.frames, Code.isCreation, Code.isCaller, Code.cUnits])
section
variable {X : Cx} {pins : List (Addr × Obj)} {σ : L2.St} {H : Hp} {s : Shared}
theorem gx_start {scope : Scope} {own : List (Str × Nat)} {fp : List Addr} {code : Value} {g' : Array GenState} {t' : Nat} {h' : Heap} {it : Value} {go : Obj} {B : Around} {fo : Obj} (I : Inv X pins σ H s) (ok : BlkOk X.N X.env.scope scope own) (hN : X.N.Nodup)
    (hcell : ∀ y ∈ scope.names, y.2 ≠ .cell) (hfp : ∀ b ∈ fp, FpOk X pins H b ∧ b < s.heap.objs.size) (hBh : B.handled = none) (hBf : B.frames = some X.stack)
    (hn' : h'.Ns s.heap.objs.size (fun y => if y = ".0" then some it else none)) (hs' : Heap.SameBut s.heap.objs.size (s.heap.push fo) h') (hg : AllBare g') (hgo : ∀ v, go.data ≠ .cell v) (hgf : go.isFreed = false := by rfl) :
    Inv (gxC X s H scope (genEnv scope (cloFrom X.env.cells scope.names []) s.heap.objs.size code builtinsNs X.env) fp B [(h'.objs.size, go)]) [] (wipe σ (own.map (·.2))) H { s with gens := g', toks := t', heap := h'.push go } := by
  have free_cell : ∀ y ∈ scope.names, y.2 = .free → ∃ c, X.env.cells.lookup y.1 = some c := fun y hy e => (ok.free y hy e).elim (fun k => I.ok.has _ (.inl k)) fun k => I.ok.has _ (.inr k)
  have sz' : h'.objs.size = s.heap.objs.size + 1 := by rw [hs'.1, Heap.size_push]
  have kp : ∀ b o, s.heap.get? b = some o → (h'.push go).get? b = some o := fun b o e => Heap.get?_push_of_some _ (hs'.extBut b o (Nat.ne_of_lt (Heap.lt_size e)) (Heap.get?_push_of_some _ e))
  -- a captured cell is the def's own
  have cap : ∀ {y c}, (cloFrom X.env.cells scope.names []).lookup y = some c → (y, NameKind.free) ∈ scope.names ∧ X.env.cells.lookup y = some c ∧ c < s.heap.objs.size := fun {y c} e => by
    rcases cloFrom_mem (PySem.mem_of_lookup e) with hm | ⟨h1, rfl⟩
    · cases hm
    · obtain ⟨c', hc⟩ := free_cell _ h1 rfl
      rw [hc]
      obtain ⟨w', z⟩ := I.cell _ _ hc
      exact ⟨h1, rfl, z.lt⟩
  have look : ∀ {y}, scope.names.lookup y = some .free → ∃ c, (cloFrom X.env.cells scope.names []).lookup y = some c ∧ X.env.cells.lookup y = some c := fun {y} hl => by
    obtain ⟨c', e'⟩ := mem_lookup (cloFrom_has (cells := X.env.cells) (acc := []) (PySem.mem_of_lookup hl))
    exact ⟨c', e', (cap e').2.1⟩
  have noC : ∀ {y}, scope.names.lookup y = some NameKind.cell → False := fun {y} e => hcell _ (PySem.mem_of_lookup e) rfl
  refine ⟨⟨I.ok.mod, ok.kind, I.ok.glob, rfl, Nat.le_refl _, fun y z c e1 e2 => I.ok.inj y z c (cap e1).2.1 (cap e2).2.1, fun y hy => ?_, fun y c z e => ?_, fun _ => hBh, Around.frames_deeper hBf, .inr ⟨rfl, rfl⟩,
    fun b hb => ⟨Nat.ne_of_lt (hfp b hb).2, fun y c e z => (hfp b hb).1.2.2.2.2.1 y c (cap e).2.1 z⟩, I.bs, Nat.le_trans I.ok.bsz I.sz, fun b o e hb => ?_, fun b hb z => ?_, I.stack, I.stkFree⟩,
    rfl, hg, Un.kept kp, ⟨_, hn'.push _, fun i y av e1 e2 e3 => ?_⟩, fun y c e => ?_, I.hok.fresh (Nat.le_refl _), fun y c e => I.freeC y c (cap e).2.1, fun p hp => ?_, I.hok.kept kp, by rw [wipe_length]; exact I.len⟩
  · rcases hy with hy | hy
    · exact (noC hy).elim
    · obtain ⟨c, h1, _⟩ := look hy
      exact ⟨c, h1⟩
  · exact (noC (by simpa using z)).elim
  · rcases (hfp b hb).1.2.2.2.1 with z | z
    · exact I.ok.noex b o e z
    · exact absurd (Nat.lt_of_lt_of_le (Heap.lt_size e) (Nat.le_trans I.ok.bsz z)) (Nat.lt_irrefl _)
  · rcases List.mem_cons.mp (I.stkSub b z) with z | z
    · exact (hfp b hb).1.2.1 z
    · exact (hfp b hb).1.2.2.1 z
  · obtain ⟨e2, hne⟩ := wipe_some e2
    have hfr : scope.names.lookup y = some .free := by
      have no : ∀ k, scope.names.lookup y = some k → k = .local ∨ k = .cell → False := fun k e hk => by
        rcases ok.own _ (PySem.mem_of_lookup e) hk with e' | e'
        · obtain ⟨p, hp, hpy⟩ := List.mem_map.mp e'
          have e3 := ok.ix p hp
          rw [show p.1 = y from hpy] at e3
          exact hne (List.mem_map.mpr ⟨p, hp, nodup_ix hN e3 e1⟩)
        · exact e' (List.mem_of_getElem? e1)
      rcases e3 with e3 | e3 | e3
      · exact (no _ e3 (.inl rfl)).elim
      · exact (no _ e3 (.inr rfl)).elim
      · exact e3
    obtain ⟨m, hn, hl⟩ := I.loc
    have hvis : Vis X.env.scope y := (ok.free _ (PySem.mem_of_lookup hfr) rfl).elim (fun k => .inr (.inl k)) (fun k => .inr (.inr k))
    obtain ⟨w', r, q⟩ := hl i y av e1 e2 hvis
    obtain ⟨c, h1, h2⟩ := look hfr
    refine ⟨w', r, .inr ⟨.inr hfr, c, h1, ?_⟩⟩
    rcases q with ⟨k, _⟩ | ⟨_, c', e', z⟩
    · have k : X.env.scope.names.lookup y = some .local := k
      rcases ok.free _ (PySem.mem_of_lookup hfr) rfl with k' | k' <;> rw [show X.env.scope.names.lookup y = _ from k'] at k <;> cases k
    · rw [h2] at e'; cases e'
      exact z.keeps kp
  · obtain ⟨w', z⟩ := I.cell y c (cap e).2.1
    exact ⟨w', z.keeps kp⟩
  · rw [List.append_nil] at hp
    have e : p = (h'.objs.size, go) := List.mem_singleton.mp hp
    subst e
    have le : s.heap.objs.size ≤ h'.objs.size := by rw [sz']; exact Nat.le_succ _
    refine ⟨Heap.get?_push_size _ hgf, I.hok.fresh le, fun z => ?_, fun z => ?_, hgo⟩
    · have z : h'.objs.size = s.heap.objs.size := z
      omega
    · rcases List.mem_cons.mp (I.stkSub _ z) with z | z
      · have l := Nat.lt_of_lt_of_le I.lt le
        have z : h'.objs.size = X.env.locals := z
        rw [z] at l
        exact absurd l (Nat.lt_irrefl _)
      · exact I.nofs le z
end

/-! ### the generator's own run -/
/-- what happens to the state while the generator sleeps -/
structure Slp (s s' : Shared) : Prop where
  heap : s'.heap = s.heap
  os : s'.os = s.os
  bare : AllBare s'.gens
theorem inv_slp {X : Cx} {pins : List (Addr × Obj)} {σ : L2.St} {H : Hp} {s s' : Shared} (I : Inv X pins σ H s) (z : Slp s s') : Inv X pins σ H s' := by
  obtain ⟨h', g', d', t', o'⟩ := s'
  obtain ⟨e1, e2, e3⟩ := z
  have e1 : h' = s.heap := e1
  subst e1
  exact ⟨I.ok, e2.trans I.os, e3, I.base, I.loc, I.cell, I.free, I.freeC, I.pin, I.hok, I.len⟩
def YG (X : Cx) (vs : List Nat) (σ : L2.St) (st : Bool) (Qs : Hp → Prop) : Protocol := fun _ _ v s kap =>
  ∃ b H', v = .bool b ∧ Inv X [] (wipe σ vs) H' s ∧ ((b = st ∧ Qs H') ∨ (b = !st ∧ ∀ s', Slp s s' → kap (.send .none) s'))
def RG (X : Cx) (vs : List Nat) (σ : L2.St) (Qt : Hp → Prop) : GenEnd := fun _ _ r s => r = .ok .next ∧ ∃ H', Inv X [] (wipe σ vs) H' s ∧ Qt H'
/-- the turns: stop at the first test that gives st -/
def gxT (J : It) (g : TG) (te : TE) (σ : L2.St) (vs : List Nat) (st : Bool) (Qt Qs : Hp → Prop) (W : Nat → Nat → Hp → Prop) : Prop := ∀ i m H, W i m H →
  (J.stop i H ∧ Qt H) ∨ (J.go i H ∧ ∃ Nx : Hp → Prop, (∀ H', Nx H' → ∃ m', m' < m ∧ W (i + 1) m' H') ∧ ∀ x H', J.yld i H x H' → g x (wipe σ vs) H' fun σ2 H2 => wipe σ2 vs = wipe σ vs ∧ te σ2 H2 fun y H3 => ∃ b, y = .bl b ∧ ((b = st ∧ Qs H3) ∨ (b = !st ∧ Nx H3)))
section
variable {X : Cx} {σ : L2.St}
theorem gx_seg {tg elt iter : Expr} {scope : Scope} {pos : Pos} {it : Addr} {fp : List Addr} {tn : Nat → Heap → Prop} {J : It} {g : TG} {te : TE} {vs : List Nat} {st : Bool} {Qt Qs : Hp → Prop} {W : Nat → Nat → Hp → Prop} {s1 : Shared} {H1 : Hp} {cenv : Env} {B : Around} {pn : List (Addr × Obj)}
    (hc : X.calm = true) (hco : cenv.scope.isCoroutine = false) (T : Turn X.prog X.w X.K tg J fp it tn) (pg : PG (gxC X s1 H1 scope cenv fp B pn) tg g) (pe : PE (gxC X s1 H1 scope cenv fp B pn) elt te) (hpn : ∀ p ∈ pn, p.1 ∉ fp) (turn : gxT J g te σ vs st Qt Qs W) :
    ∀ (m n i : Nat) (sa s : Shared) (H : Hp), m < n → W i m H → Inv (gxC X s1 H1 scope cenv fp B pn) [] (wipe σ vs) H s → tn i s.heap → (∀ b ∈ fp, H b = none) →
      Seg (model X.prog X.w) B (RG (gxC X s1 H1 scope cenv fp B pn) vs σ Qt) (YG (gxC X s1 H1 scope cenv fp B pn) vs σ st Qs) n sa (.compLoop (.GeneratorExp elt [⟨tg, iter, [], 0⟩] scope pos) 0 (.ref it) .none cenv)
        ((model X.prog X.w).den (.compLoop (.GeneratorExp elt [⟨tg, iter, [], 0⟩] scope pos) 0 (.ref it) .none cenv)) [] s := by
  have stat : ∀ {σ' : L2.St} {H' : Hp} {s' : Shared}, Inv (gxC X s1 H1 scope cenv fp B pn) [] σ' H' s' → (∀ b ∈ fp, H' b = none) → ∀ b ∈ fp, FpOk (gxC X s1 H1 scope cenv fp B pn) [] H' b := fun {σ' H' s'} I' hn b hb =>
    ⟨hn b hb, (I'.ok.exf b hb).1, I'.ok.exfs b hb, .inl hb, fun x c e => (I'.ok.exf b hb).2 x c e, fun p hp z => hpn p (by simpa using hp) (by rw [z]; exact hb)⟩
  have yv : ∀ v, yieldOut cenv v = yieldValue v := fun v => by simp only [yieldOut, hco, Bool.false_eq_true, if_false]
  intro m
  induction m using Nat.strongRecOn with
  | ind m ih =>
    intro n i sa s H hmn hW I st0 nfp
    obtain ⟨n, rfl⟩ : ∃ k, n = k + 1 := ⟨n - 1, by omega⟩
    show Seg _ B _ _ _ sa _ ((compTurn (.GeneratorExp elt [⟨tg, iter, [], 0⟩] scope pos) 0 (.ref it) .none cenv).onRaise (leaving cenv)) [] s
    rw [compTurn_gen, Sem.onRaise_eq_wrap]
    refine seg_bind_wrap (wpAny_standAt ?_)
    refine seg_bind_wrap ?_
    rw [over_gen]
    rcases turn i m H hW with ⟨stop, q⟩ | ⟨go, Nx, hNx, step⟩
    · have td := T.done (gxC X s1 H1 scope cenv fp B pn) rfl rfl rfl hc i [] s _ H (fun _ _ => False) I (stat I nfp) st0 stop
      refine thnF td fun r s6 ⟨hr, I6⟩ => ?_
      subst hr
      exact seg_end (.ok .next) ⟨rfl, H, I6, q⟩
    · have ti := T.item (gxC X s1 H1 scope cenv fp B pn) rfl rfl rfl hc i [] s _ H (fun _ _ => False) I (stat I nfp) st0 go
      refine thnF ti fun r s6 ⟨u, hr, h6⟩ => ?_
      subst hr
      refine seg_bind_wrap ?_
      rw [over_gen]
      refine thnF h6 fun _ s7 ⟨x, H7, I7, r7, y7, st7, n7⟩ => ?_
      have J7 := I7.pinned (stat I7 n7) (T.obj _ _ st7)
      refine seg_bind_wrap ?_
      rw [over_gen]
      refine thnF (pg.run _ s7 _ H7 x u _ J7 r7 (step x H7 y7)) fun _ s8 ⟨σ8, H8, I8, hw8, q8⟩ => ?_
      refine seg_bind_wrap (wpAny_tests_nil ?_)
      simp only [if_true, yv]
      rw [Sem.bind_eq_wrap', Sem.bind_eq_wrap', Sem.wrap_wrap, Sem.wrap_wrap]
      refine seg_wrap ?_
      rw [over_gen]
      refine thnF (pe.run _ s8 σ8 H8 _ I8 q8) fun yv' s9 ⟨y, H9, I9, r9, b, hb, q9⟩ => ?_
      subst hb
      obtain rfl : yv' = Value.bool b := r9
      have kept : ∀ b ∈ fp, ∀ o, s7.heap.get? b = some o → s9.heap.get? b = some o ∧ H9 b = none := fun b hb o e =>
        let z := I9.pin (b, o) (List.mem_append_right _ (List.mem_append_right _ (mem_pinsAt hb e)))
        ⟨z.1, z.2.1⟩
      have I10 : Inv (gxC X s1 H1 scope cenv fp B pn) [] (wipe σ vs) H9 s9 := (I9.unpinned (pins := [])).weak (by rw [← hw8, wipe_length]) fun j v e => by
        rw [← hw8] at e
        exact (wipe_some e).1
      refine seg_at (seg_yield rfl rfl rfl ⟨b, H9, rfl, I10, ?_⟩)
      rcases q9 with q9 | ⟨hb, q9⟩
      · exact .inl q9
      · refine .inr ⟨hb, fun s'' sl => ?_⟩
        obtain ⟨m', hm, w'⟩ := hNx H9 q9
        refine seg_again rfl (ih m' hm n (i + 1) s'' s'' H9 (by omega) w' (inv_slp I10 sl) ?_ fun b hb => ?_)
        · rw [sl.heap]
          exact T.keep _ _ _ st7 fun b hb o e => (kept b hb o e).1
        · obtain ⟨o, e, _⟩ := T.obj _ _ st7 b hb
          exact (kept b hb o e).2

/-- the state ahead of a turn of the consumer -/
def gxAt (Y : Cx) (vs : List Nat) (σ : L2.St) (st : Bool) (Qt Qs : Hp → Prop) (B : Around) (a : Addr) (g n : Nat) (s : Shared) : Prop :=
  s.heap.IsGen a g ∧ s.heap.NoLimit ∧ ∃ gs : GenState, s.gens[g]? = some gs ∧ gs.Goes (model Y.prog Y.w) B (RG Y vs σ Qt) (YG Y vs σ st Qs) n (.send .none) (s.setGen g .running)
theorem gx_next {Y : Cx} {vs : List Nat} {st : Bool} {Qt Qs : Hp → Prop} {A : Around} {a : Addr} {g n : Nat} {s : Shared} {Q : Option Value → Shared → Prop} {E : Value → Shared → Prop} (hh : A.handled = none) (hd : A.depth < recursionLimit)
    (hgen : ∀ (H' : Hp) (s' : Shared), Inv Y [] (wipe σ vs) H' s' → s'.heap.IsGen a g) (h : gxAt Y vs σ st Qt Qs A.in1 a g n s)
    (hend : ∀ H' s', Inv Y [] (wipe σ vs) H' s' → Qt H' → Q none s') (hstop : ∀ H' s', Inv Y [] (wipe σ vs) H' s' → Qs H' → Q (some (.bool st)) s')
    (hgo : ∀ m s', n = m + 1 → gxAt Y vs σ st Qt Qs A.in1 a g m s' → Q (some (.bool (!st))) s') : wpAny (model Y.prog Y.w) A (pyNext (.ref a)) Q E s := by
  obtain ⟨hg, hl, gs, hgs, go⟩ := h
  have lt : g < s.gens.size := (Array.getElem?_eq_some_iff.mp hgs).1
  refine wpAny_gsz (n := g + 1) lt (wpAny_pyNext_genexpQ (P := fun _ _ s' => ∃ H', Inv Y [] (wipe σ vs) H' s' ∧ Qt H') hh hl hd hg hgs go (fun v s1 gs' bare hv => ?_) fun s1 hp h' hk => ?_)
  · intro sz
    obtain ⟨b, H', rfl, I, q⟩ := hv
    have I2 : Inv Y [] (wipe σ vs) H' (s1.setGen g gs') := inv_slp I ⟨rfl, rfl, allBare_setGen I.bare bare⟩
    rcases q with ⟨rfl, q⟩ | ⟨rfl, q⟩
    · exact hstop H' _ I2 q
    · have sz1 : g < s1.gens.size := by
        have e : (s1.setGen g gs').gens.size = s1.gens.size := setGen_size _ _ _
        have sz : g + 1 ≤ (s1.setGen g gs').gens.size := sz
        omega
      have q2 := q ((s1.setGen g gs').setGen g .running) ⟨rfl, rfl, allBare_setGen I2.bare rfl⟩
      cases n with
      | zero => exact q2.elim
      | succ m => exact hgo m _ rfl ⟨hgen H' _ I2, I2.nolimit, gs', setGen_at sz1, q2⟩
  · intro _
    obtain ⟨H', I, q⟩ := hp
    have I2 : Inv Y [] (wipe σ vs) H' (s1.setGen g .finished) := inv_slp I ⟨rfl, rfl, allBare_setGen I.bare rfl⟩
    exact hend H' _ (I2.kept (t' := (s1.setGen g .finished).toks) hk) q
theorem gx_all {Y : Cx} {vs : List Nat} {Qt Qs : Hp → Prop} {A : Around} {a : Addr} {g : Nat} {R : Result → Shared → Prop} (hh : A.handled = none) (hd : A.depth < recursionLimit)
    (hgen : ∀ (H' : Hp) (s' : Shared), Inv Y [] (wipe σ vs) H' s' → s'.heap.IsGen a g) (hend : ∀ H' s', Inv Y [] (wipe σ vs) H' s' → Qt H' → R (.ok (.ret (.bool true))) s') (hstop : ∀ H' s', Inv Y [] (wipe σ vs) H' s' → Qs H' → R (.ok (.ret (.bool false))) s') :
    ∀ (n : Nat) (s : Shared), gxAt Y vs σ false Qt Qs A.in1.in1 a g n s → codeAny (model Y.prog Y.w) A (.builtin "all.loop" ⟨[.ref a], []⟩) R s := by
  intro n
  induction n with
  | zero =>
    intro s h
    refine codeAny_builtin F.entry_all_loop ?_
    rw [Around.under_plainId F.plain_all_loop _]
    refine wpAny_bind (m := pyNext (.ref a)) (gx_next hh hd hgen h (fun H' s' I q => ?_) (fun H' s' I q => ?_) fun m s' e _ => nomatch e)
    · exact wpAny_bind (wpAny_rule (wpAny_pure (hend H' s' I q)))
    · refine wpAny_bind (wpAny_holding (wpAny_truthy_bool ?_))
      exact wpAny_bind (wpAny_letGo (wpAny_bind (wpAny_rule (wpAny_pure (hstop H' s' I q)))))
  | succ n ih =>
    intro s h
    refine codeAny_builtin F.entry_all_loop ?_
    rw [Around.under_plainId F.plain_all_loop _]
    refine wpAny_bind (m := pyNext (.ref a)) (gx_next hh hd hgen h (fun H' s' I q => ?_) (fun H' s' I q => ?_) fun m s' e go => ?_)
    · exact wpAny_bind (wpAny_rule (wpAny_pure (hend H' s' I q)))
    · refine wpAny_bind (wpAny_holding (wpAny_truthy_bool ?_))
      exact wpAny_bind (wpAny_letGo (wpAny_bind (wpAny_rule (wpAny_pure (hstop H' s' I q)))))
    · cases e
      refine wpAny_bind (wpAny_holding (wpAny_truthy_bool ?_))
      exact wpAny_bind (wpAny_letGo (wpAny_pure ⟨plainId_quiet F.plain_all_loop _, ih s' go⟩))
theorem gx_any {Y : Cx} {vs : List Nat} {Qt Qs : Hp → Prop} {A : Around} {a : Addr} {g : Nat} {R : Result → Shared → Prop} (hh : A.handled = none) (hd : A.depth < recursionLimit)
    (hgen : ∀ (H' : Hp) (s' : Shared), Inv Y [] (wipe σ vs) H' s' → s'.heap.IsGen a g) (hend : ∀ H' s', Inv Y [] (wipe σ vs) H' s' → Qt H' → R (.ok (.ret (.bool false))) s') (hstop : ∀ H' s', Inv Y [] (wipe σ vs) H' s' → Qs H' → R (.ok (.ret (.bool true))) s') :
    ∀ (n : Nat) (s : Shared), gxAt Y vs σ true Qt Qs A.in1.in1 a g n s → codeAny (model Y.prog Y.w) A (.builtin "any.loop" ⟨[.ref a], []⟩) R s := by
  intro n
  induction n with
  | zero =>
    intro s h
    refine codeAny_builtin F.entry_any_loop ?_
    rw [Around.under_plainId F.plain_any_loop _]
    refine wpAny_bind (m := pyNext (.ref a)) (gx_next hh hd hgen h (fun H' s' I q => ?_) (fun H' s' I q => ?_) fun m s' e _ => nomatch e)
    · exact wpAny_bind (wpAny_rule (wpAny_pure (hend H' s' I q)))
    · refine wpAny_bind (wpAny_holding (wpAny_truthy_bool ?_))
      exact wpAny_bind (wpAny_letGo (wpAny_bind (wpAny_rule (wpAny_pure (hstop H' s' I q)))))
  | succ n ih =>
    intro s h
    refine codeAny_builtin F.entry_any_loop ?_
    rw [Around.under_plainId F.plain_any_loop _]
    refine wpAny_bind (m := pyNext (.ref a)) (gx_next hh hd hgen h (fun H' s' I q => ?_) (fun H' s' I q => ?_) fun m s' e go => ?_)
    · exact wpAny_bind (wpAny_rule (wpAny_pure (hend H' s' I q)))
    · refine wpAny_bind (wpAny_holding (wpAny_truthy_bool ?_))
      exact wpAny_bind (wpAny_letGo (wpAny_bind (wpAny_rule (wpAny_pure (hstop H' s' I q)))))
    · cases e
      refine wpAny_bind (wpAny_holding (wpAny_truthy_bool ?_))
      exact wpAny_bind (wpAny_letGo (wpAny_pure ⟨plainId_quiet F.plain_any_loop _, ih s' go⟩))

/-! ### made, and consumed at once -/
/-- the reading: wi the iterable, g the target, te the element; P: the def's table of code objects -/
def tGx (P : Addr) (wi : TI) (g : TG) (te : TE) (vs : List Nat) (st : Bool) : TE := fun σ H Q => wi σ H fun J H1 => GxR.TabG H1 P ∧ ∀ H2, GxR.Tabbed P H1 H2 →
  ∃ W : Nat → Nat → Hp → Prop, (∃ m, W 0 m H2) ∧ gxT J g te σ vs st (fun H3 => Q (.bl (!st)) H3) (fun H3 => Q (.bl st) H3) W
/-- what is known of the generator's frame -/
def GxF (X : Cx) (scope : Scope) (p : Cx → Prop) : Prop := ∀ (s : Shared) (H : Hp) (C : Addr) (code : Value) (fp : List Addr) (pn : List (Addr × Obj)), p (gxC X s H scope (genEnv scope (cloFrom X.env.cells scope.names []) C code builtinsNs X.env) fp X.A.in1.in1 pn)
structure GxOk (X : Cx) (scope : Scope) (own : List (Str × Nat)) : Prop where
  blk : BlkOk X.N X.env.scope scope own
  co : scope.isCoroutine = false
  cell : ∀ y ∈ scope.names, y.2 ≠ .cell
  dot : scope.names.lookup (".0" : Str) = some NameKind.local
theorem gx_ready {tg elt iter : Expr} {scope : Scope} {pos : Pos} {it : Addr} {fp : List Addr} {tn : Nat → Heap → Prop} {J : It} {g : TG} {te : TE} {vs : List Nat} {st : Bool} {Qt Qs : Hp → Prop} {W : Nat → Nat → Hp → Prop} {s1 s5 : Shared} {H1 : Hp} {cenv : Env} {B : Around} {a : Addr} {gn m0 : Nat} {go : Obj}
    (hc : X.calm = true) (hco : cenv.scope.isCoroutine = false) (T : Turn X.prog X.w X.K tg J fp it tn) (pg : PG (gxC X s1 H1 scope cenv fp B [(a, go)]) tg g) (pe : PE (gxC X s1 H1 scope cenv fp B [(a, go)]) elt te) (hpn : a ∉ fp) (turn : gxT J g te σ vs st Qt Qs W) (w0 : W 0 m0 H1)
    (I : Inv (gxC X s1 H1 scope cenv fp B [(a, go)]) [] (wipe σ vs) H1 s5) (st5 : tn 0 s5.heap) (nfp : ∀ b ∈ fp, H1 b = none) (hgen : s5.heap.IsGen a gn) (hgs : s5.gens[gn]? = some (.fresh (.compStart (.GeneratorExp elt [⟨tg, iter, [], 0⟩] scope pos) 0 (.ref it) .none cenv))) :
    gxAt (gxC X s1 H1 scope cenv fp B [(a, go)]) vs σ st Qt Qs B a gn (m0 + 1) s5 := by
  have I2 : Inv (gxC X s1 H1 scope cenv fp B [(a, go)]) [] (wipe σ vs) H1 (s5.setGen gn .running) := inv_slp I ⟨rfl, rfl, allBare_setGen I.bare rfl⟩
  refine ⟨hgen, I.nolimit, _, hgs, rfl, ?_⟩
  have loop := gx_seg (elt := elt) (iter := iter) (scope := scope) (pos := pos) hc hco T pg pe (fun p hp z => by have e := List.mem_singleton.mp hp; subst e; exact hpn z) turn m0 (m0 + 1) 0 (s5.setGen gn .running) (s5.setGen gn .running) H1 (Nat.lt_succ_self _) w0 I2 st5 nfp
  show Seg _ B _ _ _ (s5.setGen gn .running) _ ((compStart (.GeneratorExp elt [⟨tg, iter, [], 0⟩] scope pos) 0 (.ref it) .none cenv).onRaise (leaving cenv)) [] (s5.setGen gn .running)
  unfold compStart
  rw [Sem.onRaise_eq_wrap]
  show Seg _ B _ _ _ (s5.setGen gn .running) _ ((ask >>= _).wrap _ _ _ _) [] (s5.setGen gn .running)
  refine seg_bind_wrap (wpAny_askSetting ?_)
  split
  · exact seg_again rfl loop
  · refine seg_bind_wrap (wpAny_rule ?_)
    first
      | exact seg_bind_wrap (wpAny_standAt (seg_bind_wrap (T.self _ 0 _ _ _ st5 (seg_again rfl loop))))
      | (show Seg _ B _ _ _ (s5.setGen gn .running) _ ((standAt iter.pos >>= _).wrap _ _ _ _) [] (s5.setGen gn .running)
         exact seg_bind_wrap (wpAny_standAt (seg_bind_wrap (T.self _ 0 _ _ _ st5 (seg_again rfl loop)))))
theorem gx_make {c P : Addr} {tg elt iter : Expr} {gpos : Pos} {scope : Scope} {own : List (Str × Nat)} {wi : TI} {g : TG} {te : TE} {st : Bool} {k : Nat} {pins : List (Addr × Obj)} {s : Shared} {H : Hp} {Q : VK} {Q' : Value → Shared → Prop}
    (hr : Room k X.A) (hc : X.calm = true) (hN : X.N.Nodup) (TB : GxR.TabB X.base X.mg c P) (hcode : X.env.code = .ref c) (ok : GxOk X scope own) (hi : PI X tg iter wi) (hg : GxF X scope fun Y => PG Y tg g) (he : GxF X scope fun Y => PE Y elt te)
    (hs : ∀ v, genFold iter X.env v = pure v) (I : Inv X pins σ H s) (h : tGx P wi g te (own.map (·.2)) st σ H Q)
    (hQ : ∀ (Y : Cx) (a : Addr) (gn m : Nat) (s5 : Shared), Y.prog = X.prog → Y.w = X.w → (∀ H' s', Inv Y [] (wipe σ (own.map (·.2))) H' s' → s'.heap.IsGen a gn ∧ Inv X pins σ H' s') →
      gxAt Y (own.map (·.2)) σ st (fun H3 => Q (.bl (!st)) H3) (fun H3 => Q (.bl st) H3) X.A.in1.in1 a gn m s5 → s5.heap.IsGen a gn → Q' (.ref a) s5) :
    wpAny (model X.prog X.w) X.A (eval (.GeneratorExp elt [⟨tg, iter, [], 0⟩] scope gpos) X.env) Q' X.xe s := by
  have free_cell : ∀ y ∈ scope.names, y.2 = .free → ∃ c, X.env.cells.lookup y.1 = some c := fun y hy e => (ok.blk.free y hy e).elim (fun k => I.ok.has _ (.inl k)) fun k => I.ok.has _ (.inr k)
  refine wpAny_GeneratorExp_make ok.co (closure_ok free_cell) ok.cell ok.dot ok.blk.kind (by have := hr.dp; omega) ?_ hs
  refine thn (hi.run pins s σ H _ I h) fun xv s1 hx => thn hx fun itv s2 h2 => ?_
  obtain ⟨it, fp, tn, J, H2, rfl, I2, T, st2, f2, ⟨ps, hP, ht⟩, q⟩ := h2
  refine ⟨I2.nolimit, ?_⟩
  have hPs : s2.heap.get? P = some { cls := .none, data := .fields ps } := I2.hok P _ hP
  have cd : PySem.W.CodeHd s2.heap c P := TB.code.keeps fun b u e => I2.bk b u e
  have szf : ∀ b ∈ fp, b < s2.heap.objs.size := fun b hb => by
    obtain ⟨o, e, _⟩ := T.obj _ _ st2 b hb
    exact Heap.lt_size e
  have cont : ∀ (code : Value) (h3 : Heap) (tk : Nat) (ps' : Array Value), Heap.ExtBut P s2.heap h3 → s2.heap.objs.size ≤ h3.objs.size → h3.get? P = some { cls := .none, data := .fields ps' } → (∃ more, ps' = ps ++ more) → TriplesOk ps'.toList →
      wpAny (model X.prog X.w) X.A (builtinsFor X.env.globals X.env.builtins) (fun bi s₄ => ∀ h', h'.Ns s₄.heap.objs.size (fun y => if y = ".0" then some (.ref it) else none) → Heap.SameBut s₄.heap.objs.size (s₄.heap.push { cls := .type "frame", data := .dict #[] }) h' →
          Q' (.ref h'.objs.size) { s₄ with
            gens := s₄.gens.push (.fresh (.compStart (.GeneratorExp elt [⟨tg, iter, [], 0⟩] scope gpos) 0 (.ref it) .none (genEnv scope (cloFrom X.env.cells scope.names []) s₄.heap.objs.size code bi X.env))),
            toks := s₄.toks + 1 + 1 + 1,
            heap := h'.push { cls := .type "generator", data := .fields #[.int s₄.gens.size 0, .str "<genexpr>" (s₄.toks + 1), .str (X.env.qual ++ "<genexpr>") (s₄.toks + 1 + 1)] } }) X.xe { s2 with heap := h3, toks := tk } := by
    intro code h3 tk ps' hx hsz hP3 hmore ht3
    obtain ⟨more, rfl⟩ := hmore
    have I3 : Inv X pins σ (upd H2 P (.tbl (ps ++ more))) { s2 with heap := h3, toks := tk } := GxR.inv_tab (d' := s2.drawn) I2 hP (fun b o hb e => hx b o hb e) hP3 I2.bare
    obtain ⟨bm, ob, e1, e2, e3, e4, e5, e6, e7, e8⟩ := TB.bm
    refine wpAny_builtinsFor (m := X.mg) (by rw [I3.ok.glob]; exact I3.mod.glob.keeps I3.bk) e1 e2 (I3.bk _ _ e5) e6 e7 e8 ?_
    intro h' hn' hs'
    have nfp : ∀ b ∈ fp, b ≠ P := fun b hb z => by
      have q := (f2 b hb).1
      rw [z, hP] at q
      cases q
    have f3 : ∀ b ∈ fp, FpOk X pins (upd H2 P (.tbl (ps ++ more))) b ∧ b < h3.objs.size := fun b hb => ⟨⟨by rw [upd_ne (nfp b hb)]; exact (f2 b hb).1, (f2 b hb).2⟩, Nat.lt_of_lt_of_le (szf b hb) hsz⟩
    have hBh : X.A.in1.in1.handled = none := hr.hd
    generalize hgo : ({ cls := .type "generator", data := .fields #[.int s2.gens.size 0, .str "<genexpr>" (tk + 1), .str (X.env.qual ++ "<genexpr>") (tk + 1 + 1)] } : Obj) = go
    have hgf : go.isFreed = false := by rw [← hgo]; rfl
    have hgc : ∀ v, go.data ≠ .cell v := fun v z => by rw [← hgo] at z; cases z
    obtain ⟨W, ⟨m0, w0⟩, turn⟩ := q (upd H2 P (.tbl (ps ++ more))) ⟨⟨ps ++ more, upd_same, ht3⟩, fun b hb => upd_ne hb⟩
    have keep3 : ∀ b ∈ fp, ∀ o, s2.heap.get? b = some o → h3.get? b = some o := fun b hb o e => hx b o (nfp b hb) e
    clear q hP hP3 ht3
    generalize upd H2 P (.tbl (ps ++ more)) = H3 at *
    generalize hs3 : ({ s2 with heap := h3, toks := tk } : Shared) = s3 at *
    have e3h : s3.heap = h3 := by rw [← hs3]
    have e3g : s3.gens = s2.gens := by rw [← hs3]
    have e3t : s3.toks = tk := by rw [← hs3]
    subst e3h e3t
    try rw [← e3g] at hgo
    try rw [← e3g]
    have sz' : h'.objs.size = s3.heap.objs.size + 1 := by rw [hs'.1]; exact Heap.size_push _ _
    generalize hce : genEnv scope (cloFrom X.env.cells scope.names []) s3.heap.objs.size code builtinsNs X.env = ce at *
    have hco : ce.scope.isCoroutine = false := by rw [← hce]; exact ok.co
    have J4 := gx_start (g' := s3.gens.push (.fresh (.compStart (.GeneratorExp elt [⟨tg, iter, [], 0⟩] scope gpos) 0 (.ref it) .none ce))) (t' := s3.toks + 1 + 1 + 1) (code := code) (B := X.A.in1.in1) (go := go) I3 ok.blk hN ok.cell f3 hBh I3.ok.frames hn' hs' (I3.bare.push rfl) hgc hgf
    rw [hce] at J4
    have pg := hg s3 H3 s3.heap.objs.size code fp [(h'.objs.size, go)]
    have pe := he s3 H3 s3.heap.objs.size code fp [(h'.objs.size, go)]
    rw [hce] at pg pe
    have keep5 : ∀ b o, s3.heap.get? b = some o → h'.get? b = some o := fun b o e => hs'.extBut b o (Nat.ne_of_lt (Heap.lt_size e)) (Heap.get?_push_of_some _ e)
    have st5 : tn 0 (h'.push go) := T.keep _ _ _ st2 fun b hb o e => Heap.get?_push_of_some _ (keep5 b o (keep3 b hb o e))
    have gen : ∀ (H' : Hp) (s' : Shared), Inv (gxC X s3 H3 scope ce fp X.A.in1.in1 [(h'.objs.size, go)]) [] (wipe σ (own.map (·.2))) H' s' → s'.heap.IsGen h'.objs.size s3.gens.size ∧ Inv X pins σ H' s' := fun H' s' I6 => by
      refine ⟨?_, ?_⟩
      · have z := (I6.pin (h'.objs.size, go) (List.mem_append_left _ (List.mem_singleton.mpr rfl))).1
        rw [← hgo] at z
        exact ⟨_, _, _, z, rfl, rfl, rfl⟩
      · exact I3.call' (ch := fp) I6.os I6.base I6.hok I6.bare fun b hb => ⟨(f3 b hb).1.2.2.2.1, (f3 b hb).1.2.1, (f3 b hb).1.2.2.1 |> fun _ => (f3 b hb).1.2.2.2.2.1, (f3 b hb).1.2.2.2.2.2⟩
    refine hQ (gxC X s3 H3 scope ce fp X.A.in1.in1 [(h'.objs.size, go)]) h'.objs.size s3.gens.size (m0 + 1) _ rfl rfl gen (gx_ready (elt := elt) (iter := iter) (scope := scope) (pos := gpos) (m0 := m0) hc hco T pg pe (fun z => ?_) turn w0 J4 st5 (fun b hb => (f3 b hb).1.1) (gen _ _ J4).1 (Array.getElem?_push_size ..)) (gen _ _ J4).1
    exact absurd (Nat.lt_trans (by rw [sz']; exact Nat.lt_succ_self _) (f3 _ z).2) (Nat.lt_irrefl s3.heap.objs.size)
  cases hf : codeAmong gpos ps.toList with
  | none =>
    refine wpAny_genexprCodeX hcode (cd.code hPs ht) (cd.tab hPs) hf fun c' h' tk hx hge hlt hco' _ htab' _ => ?_
    obtain ⟨o1, vs, f1, tf, fl, tg, inF, tx, tt, op, _, _, _, _, _, _, _, _, _, htr, _⟩ := hco'
    exact cont _ h' tk _ hx (Nat.le_trans hge (Nat.le_of_lt hlt)) htab'.2 ⟨_, rfl⟩ htr
  | some cv =>
    refine wpAny_genexprCode_hit hcode (cd.code hPs ht) hf ?_
    exact cont cv s2.heap s2.toks ps (Heap.ExtBut.refl _ _) (Nat.le_refl _) hPs ⟨#[], by simp⟩ ht
theorem pe_allG {c P : Addr} {tg elt iter : Expr} {p pos gpos : Pos} {scope : Scope} {own : List (Str × Nat)} {wi : TI} {g : TG} {te : TE} {k : Nat}
    (hr : Room k X.A) (hc : X.calm = true) (hN : X.N.Nodup) (hgl : Gl X "all") (hm : X.mg "all" = none) (TB : GxR.TabB X.base X.mg c P) (hcode : X.env.code = .ref c) (ok : GxOk X scope own) (hi : PI X tg iter wi) (hg : GxF X scope fun Y => PG Y tg g) (he : GxF X scope fun Y => PE Y elt te)
    (hb : bootBuiltins "all" = some (.builtin "all") := by decide +kernel) (hs : ∀ v, genFold iter X.env v = pure v := by intro _; rfl)
    (hst : starEach [.GeneratorExp elt [⟨tg, iter, [], 0⟩] scope gpos] X.env = (false, eval (.GeneratorExp elt [⟨tg, iter, [], 0⟩] scope gpos) X.env) :: starEach [] X.env := by rfl) :
    PE X (.Call (.Name "all" p) [.GeneratorExp elt [⟨tg, iter, [], 0⟩] scope gpos] [] pos) (tGx P wi g te (own.map (·.2)) false) := by
  refine ⟨fun pins s σ H Q I h => ?_⟩
  refine wpAny_Call_Name_kw (ld_blt I hgl hm hb ?_)
  refine PyProof.Rows.callWith_builtin1 ?_ hst (by rfl)
  rw [hst]
  refine Calls.spliced_cons (gx_make (Q := Q) hr hc hN TB hcode ok hi hg he hs I h fun Y a gn m s5 e1 e2 back at5 isg => ?_)
  refine Calls.spliced_nil ?_
  refine call_function_tree F.kind_all F.plain_all F.entry_all (F.args_all1 _) ?_
  unfold Builtin.«all»
  refine wpAny_bind (m := oneArg "all" _) (wpAny_pure ?_)
  refine wpAny_bind (wpAny_pyIter_gen isg ?_)
  refine wpAny_pure ⟨plainId_quiet F.plain_all_loop _, ?_⟩
  rw [← e1, ← e2]
  refine gx_all (Y := Y) hr.hd (by have := hr.dp; omega) (fun H' s' I' => (back H' s' I').1) (fun H' s' I' q => ?_) (fun H' s' I' q => ?_) m s5 at5
  · exact ⟨.bl true, H', (back H' s' I').2, rfl, q⟩
  · exact ⟨.bl false, H', (back H' s' I').2, rfl, q⟩
theorem pe_anyG {c P : Addr} {tg elt iter : Expr} {p pos gpos : Pos} {scope : Scope} {own : List (Str × Nat)} {wi : TI} {g : TG} {te : TE} {k : Nat}
    (hr : Room k X.A) (hc : X.calm = true) (hN : X.N.Nodup) (hgl : Gl X "any") (hm : X.mg "any" = none) (TB : GxR.TabB X.base X.mg c P) (hcode : X.env.code = .ref c) (ok : GxOk X scope own) (hi : PI X tg iter wi) (hg : GxF X scope fun Y => PG Y tg g) (he : GxF X scope fun Y => PE Y elt te)
    (hb : bootBuiltins "any" = some (.builtin "any") := by decide +kernel) (hs : ∀ v, genFold iter X.env v = pure v := by intro _; rfl)
    (hst : starEach [.GeneratorExp elt [⟨tg, iter, [], 0⟩] scope gpos] X.env = (false, eval (.GeneratorExp elt [⟨tg, iter, [], 0⟩] scope gpos) X.env) :: starEach [] X.env := by rfl) :
    PE X (.Call (.Name "any" p) [.GeneratorExp elt [⟨tg, iter, [], 0⟩] scope gpos] [] pos) (tGx P wi g te (own.map (·.2)) true) := by
  refine ⟨fun pins s σ H Q I h => ?_⟩
  refine wpAny_Call_Name_kw (ld_blt I hgl hm hb ?_)
  refine PyProof.Rows.callWith_builtin1 ?_ hst (by rfl)
  rw [hst]
  refine Calls.spliced_cons (gx_make (Q := Q) hr hc hN TB hcode ok hi hg he hs I h fun Y a gn m s5 e1 e2 back at5 isg => ?_)
  refine Calls.spliced_nil ?_
  refine call_function_tree F.kind_any F.plain_any F.entry_any (F.args_any1 _) ?_
  unfold Builtin.«any»
  refine wpAny_bind (m := oneArg "any" _) (wpAny_pure ?_)
  refine wpAny_bind (wpAny_pyIter_gen isg ?_)
  refine wpAny_pure ⟨plainId_quiet F.plain_any_loop _, ?_⟩
  rw [← e1, ← e2]
  refine gx_any (Y := Y) hr.hd (by have := hr.dp; omega) (fun H' s' I' => (back H' s' I').1) (fun H' s' I' q => ?_) (fun H' s' I' q => ?_) m s5 at5
  · exact ⟨.bl false, H', (back H' s' I').2, rfl, q⟩
  · exact ⟨.bl true, H', (back H' s' I').2, rfl, q⟩
end
end DM

/-! all(..), any(..) of a generator expression over data; a table that has grown. -/
namespace DM
open PySem PySem.Spec PyProof.Rows
open L2
variable [Tabs]
section
variable {K : PySem.W.Frag} {H H' : Hp} {O : List Addr} {P : Addr}
/-- the table at P has grown, all else stands -/
theorem tab_ne (z : GxR.TabG H P) {a : Addr} {o : HO} (h : H a = some o) (n : ∀ q, o ≠ .tbl q) : a ≠ P := fun e => by
  obtain ⟨ps, h2, _⟩ := z
  rw [e, h2] at h
  cases h
  exact n _ rfl
theorem tab_keep (z : GxR.TabG H P) (t : GxR.Tabbed P H H') {a : Addr} {o : HO} (h : H a = some o) (n : ∀ q, o ≠ .tbl q) : H' a = some o := by
  rw [t.2 a (tab_ne z h n)]
  exact h
theorem tab_rd (z : GxR.TabG H P) (t : GxR.Tabbed P H H') {a : Addr} {u : HO} (h : Rd H a u) (n : ∀ q, u ≠ .tbl q) : Rd H' a u := by
  rcases h with h | ⟨o, h⟩
  · exact .inl (tab_keep z t h n)
  · exact .inr ⟨o, tab_keep z t h fun q e => by cases e⟩
theorem ntb {o : HO} (h : match o with
    | .tbl _ => False
    | _ => True) : ∀ q, o ≠ .tbl q := fun q e => by
  rw [e] at h
  exact h
theorem lst_grown {K : PySem.W.Frag} (z : GxR.TabG H P) (t : GxR.Tabbed P H H') {a : Addr} {xs : List V} (h : LstO K H O a xs) : LstO K H' O a xs := h.imp (fun q => ⟨tab_rd z t q.1 (ntb trivial), q.2⟩) id
mutual
theorem RD.grown (z : GxR.TabG H P) (t : GxR.Tabbed P H H') : ∀ {v : V} {d : D}, RD K H O v d → RD K H' O v d
  | _, _, .non => .non
  | _, _, .bl b => .bl b
  | _, _, .int i => .int i
  | _, _, .str x => .str x
  | _, _, .ty n => .ty n
  | _, _, .ptr a => .ptr a
  | _, _, .tup h r => .tup ⟨tab_keep z t h.1 (ntb trivial), h.2⟩ (RDs.grown z t r)
  | _, _, .lst h r => .lst (lst_grown z t h) (RDs.grown z t r)
  | _, _, .dK n h e r => .dK n (tab_keep z t h (ntb trivial)) e (RDs.grown z t r)
  | _, _, .dT n h e r => .dT n (tab_keep z t h (ntb trivial)) e (RDs.grown z t r)
  | _, _, .obj n h e r => .obj n (tab_keep z t h (ntb trivial)) e (RDs.grown z t r)
  | _, _, .exc n h e r => .exc n (tab_keep z t h (ntb trivial)) e (RDs.grown z t r)
theorem RDs.grown (z : GxR.TabG H P) (t : GxR.Tabbed P H H') : ∀ {vs : List V} {ds : List D}, RDs K H O vs ds → RDs K H' O vs ds
  | _, _, .nil => .nil
  | _, _, .cons h r => .cons (RD.grown z t h) (RDs.grown z t r)
end
theorem TabsOk.grown (t : GxR.Tabbed P H H') (h : TabsOk H O) : TabsOk H' O := fun Q hQ => by
  obtain ⟨h1, ps, h2, h3⟩ := h Q hQ
  by_cases e : Q = P
  · subst e
    obtain ⟨qs, h4, h5⟩ := t.1
    exact ⟨h1, qs, h4, h5⟩
  · exact ⟨h1, ps, by rw [t.2 Q e]; exact h2, h3⟩
mutual
theorem RM.grown (z : GxR.TabG H P) (t : GxR.Tabbed P H H') : ∀ {x : Option V} {m : M} {fp : List Addr}, RM K H O x m fp → RM K H' O x m fp
  | _, _, _, .gone x => .gone x
  | _, _, _, .v h => .v (h.grown z t)
  | _, _, _, .ml h r => .ml (tab_keep z t h (ntb trivial)) (r.grown z t)
  | _, _, _, .mk h e r => .mk (tab_keep z t h (ntb trivial)) e (r.grown z t)
  | _, _, _, .mt h e r => .mt (tab_keep z t h (ntb trivial)) e (r.grown z t)
  | _, _, _, .mo h e l r => .mo (tab_keep z t h (ntb trivial)) e l (RL.grown z t r)
  | _, _, _, .mkm h e l r => .mkm (tab_keep z t h (ntb trivial)) e l (RL.grown z t r)
theorem RL.grown (z : GxR.TabG H P) (t : GxR.Tabbed P H H') : ∀ {L : List Pr} {fp : List Addr}, RL K H O L fp → RL K H' O L fp
  | _, _, .nil q => .nil (q.grown t)
  | _, _, .cons h r => .cons (RM.grown z t h) (RL.grown z t r)
end
theorem RS.grown {L : List Pr} (z : GxR.TabG H P) (t : GxR.Tabbed P H H') (h : RS K H L) : RS K H' L := by
  obtain ⟨O, n, r⟩ := h
  exact ⟨O, n, r.grown z t⟩
theorem RS.tab {L : List Pr} (hP : P ∈ Tabs.ts) (h : RS K H L) : GxR.TabG H P := by
  obtain ⟨O, n, r⟩ := h
  obtain ⟨_, ps, h2, h3⟩ := r.tabs P hP
  exact ⟨ps, h2, h3⟩
end
/-! ### the reading -/
def gxL (g : FG) (te : FE) (own : List Nat) (st : Bool) (Kf : Bool → List M → Prop) : List D → List M → Prop
  | [], S => Kf (!st) S
  | d :: ds, S => g (.v d) S (fun S1 => te S1 (fun y S2 => asB y fun b => iteP b (cond st (Kf st (wipeM S2 own)) (gxL g te own st Kf ds (wipeM S2 own))) (cond st (gxL g te own st Kf ds (wipeM S2 own)) (Kf st (wipeM S2 own)))) X0) X0
structure GxL (g : FG) (te : FE) (own : List Nat) (st : Bool) (Kf : Bool → List M → Prop) (ds : List D) (S : List M) : Prop where
  go : gxL g te own st Kf ds S
def fGx (fi : FI) (g : FG) (te : FE) (own : List Nat) (st : Bool) : FE := fun S R XR => fi S (fun items S0 => GxL g te own st (fun b S' => R (.v (.bl b)) (restM S0 own S')) items (wipeM S0 own)) XR
section
variable {X : Cx} {W : WX}
theorem gx_core {K : PySem.W.Frag} {g : FG} {te : FE} {own : List Nat} {mask : List Bool} {σ : L2.St} {H1 : Hp} {Q : VK} {G P : List Pr} {S0 : List M} {R : RMx} {items : List D} {J : It} {Pt : Addr} {st : Bool} (hP : Pt ∈ Tabs.ts) (hm : maskOk σ.length own mask = true) (l0 : σ.length = S0.length)
    (h0 : GxL g te own st (fun b S' => R (.v (.bl b)) (restM S0 own S')) items (wipeM S0 own)) (sv : Serve K J P items) (rs0 : RS K H1 (P ++ (G ++ σ.zip S0))) (hQ : ∀ b S' H', σ.length = S'.length → R (.v (.bl b)) S' → RS K H' ((some (.bl b), .v (.bl b)) :: (G ++ σ.zip S')) → Q (.bl b) H') :
    GxR.TabG H1 Pt ∧ ∀ H2, GxR.Tabbed Pt H1 H2 → ∃ Wt : Nat → Nat → Hp → Prop, (∃ m, Wt 0 m H2) ∧ gxT J (tDG K W0 mask g) (tD K W0 te) σ own st (fun H3 => Q (.bl (!st)) H3) (fun H3 => Q (.bl st) H3) Wt := by
  refine ⟨rs0.tab hP, fun H2 ht => ?_⟩
  have a1 : RS K H2 ((P ++ G) ++ σ.zip S0) := by
    rw [List.append_assoc]
    exact rs0.grown (rs0.tab hP) ht
  have a2 := own_take (is := own) l0 a1
  -- the end, from a state of the block
  have fin : ∀ {b : Bool} {S' : List M} {H' : Hp}, σ.length = S'.length → RS K H' ((ownP σ S0 own ++ (P ++ G)) ++ (wipe σ own).zip S') → R (.v (.bl b)) (restM S0 own S') → Q (.bl b) H' := fun {b S' H'} l rs r => by
    refine hQ b (restM S0 own S') H' (by rw [restM_len]; exact l) r (RS.bl ?_ b)
    have b1 := own_back l0 l rs
    rw [List.append_assoc] at b1
    exact RS.dropL b1
  refine ⟨fun i m H' => ∃ S', σ.length = S'.length ∧ RS K H' ((ownP σ S0 own ++ (P ++ G)) ++ (wipe σ own).zip S') ∧ i + m = items.length ∧ gxL g te own st (fun b S' => R (.v (.bl b)) (restM S0 own S')) (items.drop i) S',
    ⟨items.length, _, by rw [wipeM_len]; exact l0, a2, Nat.zero_add _, h0.go⟩, fun i m H3 hW => ?_⟩
  obtain ⟨S1, l1, rs1, em, h1⟩ := hW
  have toP : ∀ {H' : Hp} {S' : List M} {σ' : L2.St}, RS K H' ((ownP σ S0 own ++ (P ++ G)) ++ σ'.zip S') → RS K H' (P ++ (ownP σ S0 own ++ (G ++ σ'.zip S'))) := fun {H' S' σ'} r => by
    refine RS.perm ?_ r
    rw [List.append_assoc, List.append_assoc]
    exact perm_rot _ _ _
  obtain ⟨s1, s2⟩ := sv i H3 _ (toP rs1)
  cases e : items[i]? with
  | none =>
    have hl : items.length ≤ i := List.getElem?_eq_none_iff.mp e
    rw [List.drop_eq_nil_of_le hl] at h1
    exact .inl ⟨s2 hl, fin l1 rs1 h1⟩
  | some d =>
    have hl : i < items.length := (List.getElem?_eq_some_iff.mp e).1
    rw [List.drop_eq_getElem_cons hl, (List.getElem?_eq_some_iff.mp e).2] at h1
    obtain ⟨g1, g2⟩ := s1 d e
    refine .inr ⟨g1, fun H' => ∃ S', σ.length = S'.length ∧ RS K H' ((ownP σ S0 own ++ (P ++ G)) ++ (wipe σ own).zip S') ∧ gxL g te own st (fun b S' => R (.v (.bl b)) (restM S0 own S')) (items.drop (i + 1)) S', fun H' ⟨S', a, b, c⟩ => ⟨m - 1, by omega, S', a, b, by omega, c⟩, fun x H4 hy => ?_⟩
    have c2 : RS K H4 ((some x, .v d) :: ((ownP σ S0 own ++ (P ++ G)) ++ (wipe σ own).zip S1)) := by
      refine RS.perm (List.Perm.cons _ ?_) (g2 x H4 hy)
      rw [List.append_assoc (ownP σ S0 own), List.append_assoc P G]
      exact perm_rot _ _ _
    refine ⟨_, S1, .v d, _, X0, by rw [wipe_length]; exact l1, c2, h1, fun S2 σ2 H5 ag2 l2 h2 rs2 => ?_, fun _ _ _ _ _ _ _ _ h _ => h.elim⟩
    have wσ := wipe_ag hm rfl ag2
    have lσ : σ2.length = σ.length := ag2.len.trans (wipe_length _ _)
    refine ⟨wσ, _, S2, _, X0, l2, rs2, h2, fun y S3 v H6 l3 h3 rs3 => ?_, xok0⟩
    obtain ⟨b, e1, hk⟩ := RS.asB rs3 h3
    have back : RS K H6 ((ownP σ S0 own ++ (P ++ G)) ++ (wipe σ own).zip (wipeM S3 own)) := by
      have q := own_take l3 (is := own) rs3.drop
      rw [wσ, List.append_assoc] at q
      exact RS.dropL q
    have l4 : σ.length = (wipeM S3 own).length := by rw [wipeM_len, ← l3, lσ]
    subst e1
    refine ⟨b, rfl, ?_⟩
    cases b <;> cases st <;> first
      | (rw [iteP_t] at hk; first | exact .inr ⟨rfl, _, l4, back, hk⟩ | exact .inl ⟨rfl, fin l4 back hk⟩)
      | (rw [iteP_f] at hk; first | exact .inr ⟨rfl, _, l4, back, hk⟩ | exact .inl ⟨rfl, fin l4 back hk⟩)
theorem gx_read {K : PySem.W.Frag} {fi : FI} {g : FG} {te : FE} {own : List Nat} {mask : List Bool} {σ : L2.St} {H : Hp} {Q : VK} {Pt : Addr} {st : Bool} (hP : Pt ∈ Tabs.ts) (hm : maskOk σ.length own mask = true) (h : tD K W (fGx fi g te own st) σ H Q) :
    tGx Pt (tDI K W fi) (tDG K W0 mask g) (tD K W0 te) own st σ H Q := by
  obtain ⟨G, S, R, XR, l, rs, hF, hQ, hX⟩ := h
  exact ⟨G, S, _, XR, l, rs, hF, fun items S0 J P H1 l0 h0 sv rs0 => gx_core hP hm l0 h0 sv rs0 fun b S' H' l' r rs' => hQ _ S' _ H' l' r rs', hX⟩
theorem de_allG {c Pt : Addr} {tg elt iter : Expr} {p pos gpos : Pos} {scope : Scope} {own : List (Str × Nat)} {fi : FI} {g : FG} {te : FE} {mask : List Bool} {k : Nat}
    (hr : Room k X.A) (hc : X.calm = true) (hN : X.N.Nodup) (hgl : Gl X "all") (hma : X.mg "all" = none) (hP : Pt ∈ Tabs.ts) (TB : GxR.TabB X.base X.mg c Pt) (hcode : X.env.code = .ref c) (ok : GxOk X scope own) (hi : DI X W tg iter fi) (hg : GxF X scope fun Y => DG Y W0 mask tg g) (he : GxF X scope fun Y => DE Y W0 elt te)
    (hmk : maskOk X.N.length (own.map (·.2)) mask = true := by rfl) (hs : ∀ v, genFold iter X.env v = pure v := by intro _; rfl)
    (hst : starEach [.GeneratorExp elt [⟨tg, iter, [], 0⟩] scope gpos] X.env = (false, eval (.GeneratorExp elt [⟨tg, iter, [], 0⟩] scope gpos) X.env) :: starEach [] X.env := by rfl) :
    DE X W (.Call (.Name "all" p) [.GeneratorExp elt [⟨tg, iter, [], 0⟩] scope gpos] [] pos) (fGx fi g te (own.map (·.2)) false) :=
  ⟨⟨fun pins s σ H Q I h => (pe_allG hr hc hN hgl hma TB hcode ok hi.pi (fun s H C code fp pn => (hg s H C code fp pn).pg) (fun s H C code fp pn => (he s H C code fp pn).pe) (hs := hs) (hst := hst)).run pins s σ H Q I (gx_read (W := W) (mask := mask) hP (by rw [I.len]; exact hmk) h)⟩⟩
theorem de_anyG {c Pt : Addr} {tg elt iter : Expr} {p pos gpos : Pos} {scope : Scope} {own : List (Str × Nat)} {fi : FI} {g : FG} {te : FE} {mask : List Bool} {k : Nat}
    (hr : Room k X.A) (hc : X.calm = true) (hN : X.N.Nodup) (hgl : Gl X "any") (hma : X.mg "any" = none) (hP : Pt ∈ Tabs.ts) (TB : GxR.TabB X.base X.mg c Pt) (hcode : X.env.code = .ref c) (ok : GxOk X scope own) (hi : DI X W tg iter fi) (hg : GxF X scope fun Y => DG Y W0 mask tg g) (he : GxF X scope fun Y => DE Y W0 elt te)
    (hmk : maskOk X.N.length (own.map (·.2)) mask = true := by rfl) (hs : ∀ v, genFold iter X.env v = pure v := by intro _; rfl)
    (hst : starEach [.GeneratorExp elt [⟨tg, iter, [], 0⟩] scope gpos] X.env = (false, eval (.GeneratorExp elt [⟨tg, iter, [], 0⟩] scope gpos) X.env) :: starEach [] X.env := by rfl) :
    DE X W (.Call (.Name "any" p) [.GeneratorExp elt [⟨tg, iter, [], 0⟩] scope gpos] [] pos) (fGx fi g te (own.map (·.2)) true) :=
  ⟨⟨fun pins s σ H Q I h => (pe_anyG hr hc hN hgl hma TB hcode ok hi.pi (fun s H C code fp pn => (hg s H C code fp pn).pg) (fun s H C code fp pn => (he s H C code fp pn).pe) (hs := hs) (hst := hst)).run pins s σ H Q I (gx_read (W := W) (mask := mask) hP (by rw [I.len]; exact hmk) h)⟩⟩
end
end DM

/-! The end over a head by facts. -/
namespace DM
open PySem PySem.Spec PyProof.Rows
open L2
theorem room_gx {k j : Nat} {A : Around} {env : Env} (r : Room k A) (h : j + 3 ≤ k) : Room j (A.in1.in1.deeper env) := (((r.mono h : Room (j + 3) A).in1).in1).deeper env
theorem FunD.binds_none {K : PySem.W.Frag} {x qual : Str} {params : Arguments} {body : List Stmt} {scope : Scope} {f : Addr} {fd : FuncData} {ps : List Str} (F : FunD K x qual params body scope [] [] f fd)
    (h : ∀ (kV doc pm : Value) (an : Option Addr) (cdv ct : Value) (us : List Value), us.length = ps.length → bindArgs (PySem.W.fnOf x qual params body scope .none kV doc pm an cdv ct) ⟨us, []⟩ = pure (ps.zip us)) : Binds K fd ps [] := by
  obtain ⟨oc, od, dV, kV, doc, pm, an, cdv, ct, osl, rfl, lk, hcd, hD, _⟩ := F.ex
  rcases hD with ⟨_, rfl⟩ | ⟨e, _⟩
  · exact .all (h kV doc pm an cdv ct)
  · exact absurd rfl e
/-- the def's code object is found -/
def codeIsB (K : PySem.W.Frag) (p : Str × Option Str) : Bool := match K.lookup (He.fAd K p) with
  | some ⟨_, _, .func fd, _⟩ => decide (fd.code = .ref (He.cT K p).1)
  | _ => false
theorem code_is {K : PySem.W.Frag} {p : Str × Option Str} {x qual : Str} {params : Arguments} {body : List Stmt} {scope : Scope} {dvs : List V} {kws : List (Str × V)} {fd : FuncData} (F : FunD K x qual params body scope dvs kws (He.fAd K p) fd) (h : codeIsB K p = true) : fd.code = .ref (He.cT K p).1 := by
  obtain ⟨oc, od, dV, kV, doc, pm, an, cdv, ct, osl, e, lk, _⟩ := F.ex
  unfold codeIsB at h
  rw [lk] at h
  exact of_decide_eq_true h
theorem TabB_of {base : Heap} {mg : Str → Option Value} {p : Addr × Addr} (h : LamX.TabB base mg p.1 p.2) : GxR.TabB base mg p.1 p.2 := ⟨h.code, h.bm, h.gP⟩
end DM

/-! Plain data; small lemmas for the bodies. -/
namespace DM
open PySem PySem.Spec PyProof.Rows
open L2
section
local instance (priority := low) noTabs0 : Tabs := ⟨[]⟩
/-! ### plain data -/
noncomputable instance : DecidableEq D := fun _ _ => Classical.propDecidable _
/-- plain data: b: with truth values; n: more than its depth -/
def Pl (b : Bool) : Nat → D → Prop
  | 0, _ => False
  | n + 1, .tup ds => ds.length ≤ 100000 ∧ ∀ d ∈ ds, Pl b n d
  | n + 1, .lst ds => ds.length ≤ 100000 ∧ ∀ d ∈ ds, Pl b n d
  | _ + 1, .non => True
  | _ + 1, .bl _ => b = true
  | _ + 1, .int _ => True
  | _ + 1, .str x => PyData.strOk x = true
  | _ + 1, _ => False
/-- what a frozen thing or an own list holds -/
def asM : M → Option D
  | .v d => some d
  | .ml ds => some (.lst ds)
  | _ => none
theorem Pl.int {b : Bool} {n : Nat} {i : Int} : Pl b (n + 1) (.int i) := trivial
theorem Pl.non {b : Bool} {n : Nat} : Pl b (n + 1) .non := trivial
theorem Pl.bl {n : Nat} {i : Bool} : Pl true (n + 1) (.bl i) := rfl
theorem Pl.str {b : Bool} {n : Nat} {x : Str} (h : PyData.strOk x = true) : Pl b (n + 1) (.str x) := h
theorem Pl.tup {b : Bool} {n : Nat} {ds : List D} (h1 : ds.length ≤ 100000) (h2 : ∀ d ∈ ds, Pl b n d) : Pl b (n + 1) (.tup ds) := ⟨h1, h2⟩
theorem Pl.lst {b : Bool} {n : Nat} {ds : List D} (h1 : ds.length ≤ 100000) (h2 : ∀ d ∈ ds, Pl b n d) : Pl b (n + 1) (.lst ds) := ⟨h1, h2⟩
theorem Pl.tupM {α : Type} {f : α → D} {b : Bool} {n : Nat} {xs : List α} (h1 : xs.length ≤ 100000) (h2 : ∀ x ∈ xs, Pl b n (f x)) : Pl b (n + 1) (.tup (xs.map f)) := ⟨by rw [List.length_map]; exact h1, fun d hd => by obtain ⟨x, hx, rfl⟩ := List.mem_map.mp hd; exact h2 x hx⟩
theorem Pl.lstM {α : Type} {f : α → D} {b : Bool} {n : Nat} {xs : List α} (h1 : xs.length ≤ 100000) (h2 : ∀ x ∈ xs, Pl b n (f x)) : Pl b (n + 1) (.lst (xs.map f)) := ⟨by rw [List.length_map]; exact h1, fun d hd => by obtain ⟨x, hx, rfl⟩ := List.mem_map.mp hd; exact h2 x hx⟩
theorem Pl.tupI {b : Bool} {n : Nat} {xs : List Int} (h : xs.length ≤ 100000) : Pl b (n + 2) (.tup (xs.map D.int)) := .tupM h fun _ _ => .int
theorem Pl.lstI {b : Bool} {n : Nat} {xs : List Int} (h : xs.length ≤ 100000) : Pl b (n + 2) (.lst (xs.map D.int)) := .lstM h fun _ _ => .int
theorem pl_nil {b : Bool} {n : Nat} : ∀ d ∈ ([] : List D), Pl b n d := fun _ h => nomatch h
theorem pl_cons {b : Bool} {n : Nat} {d : D} {ds : List D} (h : Pl b n d) (r : ∀ e ∈ ds, Pl b n e) : ∀ e ∈ d :: ds, Pl b n e := fun e he => by
  rcases List.mem_cons.mp he with rfl | he
  · exact h
  · exact r e he
theorem Pl.up {b : Bool} : ∀ {n : Nat} {d : D}, Pl b n d → Pl b (n + 1) d
  | 0, _, h => h.elim
  | n + 1, .tup ds, h => ⟨h.1, fun d hd => Pl.up (h.2 d hd)⟩
  | n + 1, .lst ds, h => ⟨h.1, fun d hd => Pl.up (h.2 d hd)⟩
  | n + 1, .non, _ => trivial
  | n + 1, .bl _, h => h
  | n + 1, .int _, _ => trivial
  | n + 1, .str _, h => h
  | n + 1, .ty _, h => h
  | n + 1, .ptr _, h => h
  | n + 1, .dK _ _, h => h
  | n + 1, .dT _ _, h => h
  | n + 1, .obj _ _ _, h => h
  | n + 1, .exc _ _ _ _, h => h
theorem Pl.le {b : Bool} {n m : Nat} {d : D} (h : Pl b n d) (hm : n ≤ m) : Pl b m d := by
  obtain ⟨k, rfl⟩ : ∃ k, m = n + k := ⟨m - n, by omega⟩
  clear hm
  induction k with
  | zero => exact h
  | succ k ih => exact ih.up
theorem Pl.tt : ∀ {n : Nat} {d : D}, Pl false n d → Pl true n d
  | 0, _, h => h.elim
  | n + 1, .tup ds, h => ⟨h.1, fun d hd => Pl.tt (h.2 d hd)⟩
  | n + 1, .lst ds, h => ⟨h.1, fun d hd => Pl.tt (h.2 d hd)⟩
  | n + 1, .non, _ => trivial
  | n + 1, .bl _, _ => rfl
  | n + 1, .int _, _ => trivial
  | n + 1, .str _, h => h
  | n + 1, .ty _, h => h
  | n + 1, .ptr _, h => h
  | n + 1, .dK _ _, h => h
  | n + 1, .dT _ _, h => h
  | n + 1, .obj _ _ _, h => h
  | n + 1, .exc _ _ _ _, h => h
theorem pl_pys {n : Nat} (ih : ∀ d, Pl false n d → ∃ p, pyD d = some p ∧ PyData.canLay0 p = true ∧ PyData.depth p ≤ n) : ∀ {ds : List D}, (∀ d ∈ ds, Pl false n d) → ∃ ps, pyDs ds = some ps ∧ PyData.canLayAll0 ps = true ∧ PyData.depthAll ps ≤ n
  | [], _ => ⟨[], rfl, rfl, Nat.zero_le _⟩
  | d :: ds, h => by
    obtain ⟨p, e1, l1, d1⟩ := ih d (h d List.mem_cons_self)
    obtain ⟨ps, e2, l2, d2⟩ := pl_pys ih (ds := ds) fun e he => h e (List.mem_cons_of_mem _ he)
    refine ⟨p :: ps, by rw [pyDs, e1, e2], ?_, Nat.max_le.mpr ⟨d1, d2⟩⟩
    show (PyData.canLay0 p && PyData.canLayAll0 ps) = true
    rw [l1, l2]
    rfl
theorem pl_py : ∀ (n : Nat) (d : D), Pl false n d → ∃ p, pyD d = some p ∧ PyData.canLay0 p = true ∧ PyData.depth p ≤ n
  | 0, _, h => h.elim
  | n + 1, .tup ds, h => by
    obtain ⟨ps, e, l, dd⟩ := pl_pys (pl_py n) h.2
    exact ⟨.tuple ps, by rw [pyD, e]; rfl, l, Nat.succ_le_succ dd⟩
  | n + 1, .lst ds, h => by
    obtain ⟨ps, e, l, dd⟩ := pl_pys (pl_py n) h.2
    exact ⟨.list ps, by rw [pyD, e]; rfl, l, Nat.succ_le_succ dd⟩
  | n + 1, .non, _ => ⟨_, rfl, rfl, Nat.zero_le _⟩
  | n + 1, .bl _, h => nomatch h
  | n + 1, .int _, _ => ⟨_, rfl, rfl, Nat.zero_le _⟩
  | n + 1, .str x, h => ⟨_, rfl, h, Nat.zero_le _⟩
  | n + 1, .ty _, h => h.elim
  | n + 1, .ptr _, h => h.elim
  | n + 1, .dK _ _, h => h.elim
  | n + 1, .dT _ _, h => h.elim
  | n + 1, .obj _ _ _, h => h.elim
  | n + 1, .exc _ _ _ _, h => h.elim
theorem dec_iff {p q : Prop} [Decidable p] [Decidable q] (h : p ↔ q) : decide p = decide q := by
  by_cases hp : p
  · rw [decide_eq_true hp, decide_eq_true (h.mp hp)]
  · rw [decide_eq_false hp, decide_eq_false fun z => hp (h.mpr z)]
theorem pl_eqvs {n m : Nat} (ih : ∀ d e p q, Pl false n d → Pl false m e → pyD d = some p → pyD e = some q → PyData.eqv p q = decide (d = e)) : ∀ {ds es : List D} {ps qs : List PyData}, (∀ d ∈ ds, Pl false n d) → (∀ d ∈ es, Pl false m d) → pyDs ds = some ps → pyDs es = some qs → PyData.eqvAll ps qs = decide (ds = es)
  | [], [], _, _, _, _, e1, e2 => by cases e1; cases e2; simp [PyData.eqvAll]
  | [], e :: es, _, _, _, h2, e1, e2 => by
    cases e1
    rw [pyDs] at e2
    split at e2
    · cases e2; simp [PyData.eqvAll]
    · cases e2
  | d :: ds, [], _, _, _, _, e1, e2 => by
    cases e2
    rw [pyDs] at e1
    split at e1
    · cases e1; simp [PyData.eqvAll]
    · cases e1
  | d :: ds, e :: es, _, _, h1, h2, e1, e2 => by
    rw [pyDs] at e1 e2
    split at e1
    · rename_i p ps a1 a2
      cases e1
      split at e2
      · rename_i q qs b1 b2
        cases e2
        have r1 := ih d e p q (h1 d List.mem_cons_self) (h2 e List.mem_cons_self) a1 b1
        have r2 := pl_eqvs ih (fun x hx => h1 x (List.mem_cons_of_mem _ hx)) (fun x hx => h2 x (List.mem_cons_of_mem _ hx)) a2 b2
        show (PyData.eqv p q && PyData.eqvAll ps qs) = _
        rw [r1, r2, ← Bool.decide_and]
        exact dec_iff (by rw [List.cons.injEq])
      · cases e2
    · cases e1
theorem pl_eqv : ∀ (n m : Nat) (d e : D) (p q : PyData), Pl false n d → Pl false m e → pyD d = some p → pyD e = some q → PyData.eqv p q = decide (d = e) := by
  intro n
  induction n with
  | zero => intro m d e p q h; exact h.elim
  | succ n ih =>
    intro m d e p q h1 h2 e1 e2
    cases m with
    | zero => exact h2.elim
    | succ m =>
      cases d with
      | tup ds =>
        rw [pyD] at e1
        cases a : pyDs ds with
        | none => rw [a] at e1; cases e1
        | some ps =>
          rw [a] at e1; cases e1
          cases e with
          | tup es =>
            rw [pyD] at e2
            cases b : pyDs es with
            | none => rw [b] at e2; cases e2
            | some qs =>
              rw [b] at e2; cases e2
              show PyData.eqvAll ps qs = _
              rw [pl_eqvs (ih m) h1.2 h2.2 a b]
              exact dec_iff (by rw [D.tup.injEq])
          | lst es =>
            rw [pyD] at e2
            cases b : pyDs es with
            | none => rw [b] at e2; cases e2
            | some qs => rw [b] at e2; cases e2; simp [PyData.eqv]
          | non => cases e2; simp [PyData.eqv]
          | int j => cases e2; simp [PyData.eqv]
          | str j => cases e2; simp [PyData.eqv]
          | bl j => exact nomatch h2
          | _ => exact h2.elim
      | lst ds =>
        rw [pyD] at e1
        cases a : pyDs ds with
        | none => rw [a] at e1; cases e1
        | some ps =>
          rw [a] at e1; cases e1
          cases e with
          | lst es =>
            rw [pyD] at e2
            cases b : pyDs es with
            | none => rw [b] at e2; cases e2
            | some qs =>
              rw [b] at e2; cases e2
              show PyData.eqvAll ps qs = _
              rw [pl_eqvs (ih m) h1.2 h2.2 a b]
              exact dec_iff (by rw [D.lst.injEq])
          | tup es =>
            rw [pyD] at e2
            cases b : pyDs es with
            | none => rw [b] at e2; cases e2
            | some qs => rw [b] at e2; cases e2; simp [PyData.eqv]
          | non => cases e2; simp [PyData.eqv]
          | int j => cases e2; simp [PyData.eqv]
          | str j => cases e2; simp [PyData.eqv]
          | bl j => exact nomatch h2
          | _ => exact h2.elim
      | non =>
        cases e1
        cases e with
        | tup es =>
          rw [pyD] at e2
          cases b : pyDs es with
          | none => rw [b] at e2; cases e2
          | some qs => rw [b] at e2; cases e2; simp [PyData.eqv]
        | lst es =>
          rw [pyD] at e2
          cases b : pyDs es with
          | none => rw [b] at e2; cases e2
          | some qs => rw [b] at e2; cases e2; simp [PyData.eqv]
        | non => cases e2; simp [PyData.eqv]
        | int j => cases e2; simp [PyData.eqv]
        | str j => cases e2; simp [PyData.eqv]
        | bl j => exact nomatch h2
        | _ => exact h2.elim
      | int i =>
        cases e1
        cases e with
        | tup es =>
          rw [pyD] at e2
          cases b : pyDs es with
          | none => rw [b] at e2; cases e2
          | some qs => rw [b] at e2; cases e2; simp [PyData.eqv]
        | lst es =>
          rw [pyD] at e2
          cases b : pyDs es with
          | none => rw [b] at e2; cases e2
          | some qs => rw [b] at e2; cases e2; simp [PyData.eqv]
        | non => cases e2; simp [PyData.eqv]
        | int j =>
          cases e2
          show (i == j) = _
          exact dec_iff (by rw [D.int.injEq])
        | str j => cases e2; simp [PyData.eqv]
        | bl j => exact nomatch h2
        | _ => exact h2.elim
      | str i =>
        cases e1
        cases e with
        | tup es =>
          rw [pyD] at e2
          cases b : pyDs es with
          | none => rw [b] at e2; cases e2
          | some qs => rw [b] at e2; cases e2; simp [PyData.eqv]
        | lst es =>
          rw [pyD] at e2
          cases b : pyDs es with
          | none => rw [b] at e2; cases e2
          | some qs => rw [b] at e2; cases e2; simp [PyData.eqv]
        | non => cases e2; simp [PyData.eqv]
        | int j => cases e2; simp [PyData.eqv]
        | str j =>
          cases e2
          show (i == j) = _
          rw [show (i == j) = decide (i = j) by by_cases z : i = j <;> simp [z]]
          exact dec_iff (by rw [D.str.injEq])
        | bl j => exact nomatch h2
        | _ => exact h2.elim
      | bl i => exact nomatch h1
      | _ => exact h1.elim
theorem asM_py {a : M} {d : D} {p : PyData} (h : asM a = some d) (e : pyD d = some p) : pyM a = some p := by
  unfold asM at h
  split at h
  · cases h; exact e
  · cases h
    rw [pyM]
    rw [pyD] at e
    exact e
  · cases h
/-- == and != of plain data -/
theorem pl_pair {a b : M} {d e : D} (ha : asM a = some d) (hb : asM b = some e) (h1 : Pl false 64 d) (h2 : Pl false 64 e) : ∃ p q, pyM a = some p ∧ pyM b = some q ∧ SeqAt.shaped p = true ∧ SeqAt.shaped q = true ∧ PyData.eqv p q = decide (d = e) := by
  obtain ⟨p, e1, l1, d1⟩ := pl_py 64 d h1
  obtain ⟨q, e2, l2, d2⟩ := pl_py 64 e h2
  refine ⟨p, q, asM_py ha e1, asM_py hb e2, ?_, ?_, pl_eqv 64 64 d e p q h1 h2 e1 e2⟩
  · unfold SeqAt.shaped
    rw [l1, decide_eq_true d1]
    rfl
  · unfold SeqAt.shaped
    rw [l2, decide_eq_true d2]
    rfl
theorem eq_pl {a b : M} {k : Bool → Prop} (d e : D) (ha : asM a = some d) (hb : asM b = some e) (h1 : Pl false 64 d) (h2 : Pl false 64 e) (h : k (decide (d = e))) : EqP a b k := by
  obtain ⟨p, q, x1, x2, x3, x4, x5⟩ := pl_pair ha hb h1 h2
  exact .mk p q x1 x2 x3 x4 (by rw [x5]; exact h)
theorem map_inj {α : Type} {f : α → D} (hf : ∀ x y, f x = f y → x = y) : ∀ {xs ys : List α}, xs.map f = ys.map f → xs = ys
  | [], [], _ => rfl
  | [], _ :: _, h => nomatch h
  | _ :: _, [], h => nomatch h
  | x :: xs, y :: ys, h => by
    obtain ⟨a, b⟩ := List.cons.inj h
    rw [hf x y a, map_inj hf b]
theorem tupI_inj {xs ys : List Int} (h : D.tup (xs.map D.int) = D.tup (ys.map D.int)) : xs = ys := map_inj (fun _ _ => D.int.inj) (D.tup.inj h)
theorem take_last {xs : List Int} {k : Nat} (h : 0 < k) (hk : k ≤ xs.length) : xs.take k = xs.take (k - 1) ++ [xs[k - 1]'(by omega)] := by
  have e : k = (k - 1) + 1 := by omega
  have q := take_succ' (l := xs) (i := k - 1) (x := xs[k - 1]'(by omega)) (List.getElem?_eq_getElem (by omega))
  rw [← e] at q
  exact q
theorem atI_int {xs : List Int} {k : Nat} {i : Int} (e : i = (k : Int)) (hk : k < xs.length) : atI (xs.map D.int) i = some (.int (xs[k]'hk)) := by
  subst e
  rw [L2.atI_nat (j := k) (by rw [List.getElem?_map, List.getElem?_eq_getElem hk]; rfl)]
theorem cut_take {α : Type} (xs : List α) {k : Nat} (h : k ≤ xs.length) : cut xs none (some (k : Int)) = xs.take k := by
  unfold cut
  have e1 : HT.sIx xs.length 0 none = 0 := HT.sIx_none _ _
  have e2 : HT.sIx xs.length xs.length (some (k : Int)) = min k xs.length := HT.sIx_nat xs.length xs.length k
  rw [e1, e2, List.drop_zero, Nat.sub_zero, Nat.min_eq_left h]
theorem cut_drop1 {α : Type} (xs : List α) : cut xs (some 1) none = xs.drop 1 := by
  unfold cut
  rw [show HT.sIx xs.length 0 (some 1) = min 1 xs.length from HT.sIx_nat xs.length 0 1, HT.sIx_none]
  cases xs with
  | nil => rfl
  | cons x r =>
    rw [show min 1 (x :: r).length = 1 by
      rw [List.length_cons]
      omega]
    show (List.take ((x :: r).length - 1) r) = r
    rw [List.length_cons, Nat.add_sub_cancel]
    exact List.take_length
theorem cut_takeN {α : Type} (xs : List α) (k : Nat) : cut xs none (some (k : Int)) = xs.take k := by
  unfold cut
  have e1 : HT.sIx xs.length 0 none = 0 := HT.sIx_none _ _
  have e2 : HT.sIx xs.length xs.length (some (k : Int)) = min k xs.length := HT.sIx_nat xs.length xs.length k
  rw [e1, e2, List.drop_zero, Nat.sub_zero]
  rcases Nat.le_total k xs.length with h | h
  · rw [Nat.min_eq_left h]
  · rw [Nat.min_eq_right h, List.take_of_length_le h, List.take_of_length_le (Nat.le_refl _)]

/-! ### pieces of a body -/
inductive Piece (b : FS) (E : EM) (S : List M) : Prop where
  | mk (h : b E S)
  | no (h : False)
def sPc (b : FS) : FS := fun E S => Piece b E S
theorem Piece.get {b : FS} {E : EM} {S : List M} (h : Piece b E S) : b E S := by
  cases h with
  | mk h => exact h
  | no h => exact h.elim
/-! ### steps of the reckoning -/
theorem ix_of {α : Type} {f : α → D} {xs : List α} {a : M} {i : Int} {Q : D → Prop} (ha : sqV a = some (xs.map f)) (h0 : 0 ≤ i) (h1 : i < xs.length) (h : ∀ x, xs[i.toNat]? = some x → Q (f x)) : ∃ ds d, sqV a = some ds ∧ atI ds i = some d ∧ Q d := by
  obtain ⟨j, rfl⟩ := Int.eq_ofNat_of_zero_le h0
  have hl : j < xs.length := by omega
  exact ⟨_, f xs[j], ha, L2.atI_nat (by rw [List.getElem?_map, List.getElem?_eq_getElem hl]; rfl), h _ (List.getElem?_eq_getElem hl)⟩
theorem ix_mem {α : Type} {f : α → D} {xs : List α} {a : M} {i : Int} {Q : D → Prop} (ha : sqV a = some (xs.map f)) (h0 : 0 ≤ i) (h1 : i < xs.length) (h : ∀ x ∈ xs, Q (f x)) : ∃ ds d, sqV a = some ds ∧ atI ds i = some d ∧ Q d :=
  ix_of ha h0 h1 fun x hx => h x (List.mem_of_getElem? hx)
theorem rng_len (lo : Int) (n : Nat) (c : Int) : (rngD lo n c).length = n := rngD_len lo n c
/-- a comprehension over a range whose items are ints, the state kept -/
theorem lc_rng {k : Nat} {te : FE} {Kf : List D → List M → Prop} {n : Nat} {S0 : List M} (P : Nat → List Int → Prop) (hS : S0[k]? = some .gone) (h0 : P 0 []) (hz : n < sizeLine)
    (h : ∀ (i : Nat) (ys : List Int) (R : RMx), i < n → ys.length = i → P i ys → (∀ y, P (i + 1) (ys ++ [y]) → R (.v (.int y)) (S0.set k (.v (.int i)))) → te (S0.set k (.v (.int i))) R X0)
    (he : ∀ ys : List Int, ys.length = n → P n ys → Kf (ys.map D.int) S0) : LcL (gNm k) tTrue te [k] Kf (rngD 0 n 1) [] S0 := by
  have back : (S0.set k .gone) = S0 := by
    apply List.ext_getElem?
    intro j
    by_cases e : k = j
    · subst e
      have l : k < S0.length := (List.getElem?_eq_some_iff.mp hS).1
      rw [List.getElem?_set_self l, hS]
    · rw [List.getElem?_set_ne e]
  refine lcL_by (fun i acc S => ∃ ys : List Int, acc = ys.map D.int ∧ ys.length = i ∧ P i ys ∧ S = S0) ?_ ?_ _ _ ⟨[], rfl, rfl, h0, rfl⟩
  · rintro i d acc S Kx hd ⟨ys, rfl, hl, hP, rfl⟩ hK
    obtain ⟨hi, rfl⟩ := rngD_get hd
    have e : (0 : Int) + (i : Int) * 1 = (i : Int) := by omega
    rw [e]
    show setK S k (.v (.int i)) _
    rw [setK_eq]
    show te (S.set k (.v (.int i))) _ X0 |> fun z => iteP true z _
    refine iteP_pos rfl ?_
    refine h i ys _ hi hl hP fun y hy => ?_
    show (ys.map D.int).length < sizeLine ∧ Kx (ys.map D.int ++ [.int y]) (wipeM (S.set k (.v (.int i))) [k])
    refine ⟨by rw [List.length_map, hl]; omega, hK _ _ ⟨ys ++ [y], by rw [List.map_append]; rfl, by rw [List.length_append, hl]; rfl, hy, ?_⟩⟩
    show ((S.set k (.v (.int i))).set k .gone) = S
    rw [List.set_set]
    exact back
  · rintro acc S ⟨ys, rfl, hl, hP, rfl⟩
    rw [rngD_len] at hl hP
    exact he ys hl hP
/-- .. that changes the state: st -/
theorem lc_st {α : Type} {k : Nat} {te : FE} {Kf : List D → List M → Prop} {n : Nat} (st : α → List M) (P : Nat → List Int → α → Prop) (hS : ∀ a, (st a)[k]? = some .gone) (a0 : α) (h0 : P 0 [] a0) (hz : n < sizeLine)
    (h : ∀ (i : Nat) (ys : List Int) (a : α) (R : RMx), i < n → ys.length = i → P i ys a → (∀ y a', P (i + 1) (ys ++ [y]) a' → R (.v (.int y)) ((st a').set k (.v (.int i)))) → te ((st a).set k (.v (.int i))) R X0)
    (he : ∀ (ys : List Int) a, ys.length = n → P n ys a → Kf (ys.map D.int) (st a)) : LcL (gNm k) tTrue te [k] Kf (rngD 0 n 1) [] (st a0) := by
  have back : ∀ a, ((st a).set k .gone) = st a := fun a => by
    apply List.ext_getElem?
    intro j
    by_cases e : k = j
    · subst e
      have l : k < (st a).length := (List.getElem?_eq_some_iff.mp (hS a)).1
      rw [List.getElem?_set_self l, hS]
    · rw [List.getElem?_set_ne e]
  refine lcL_by (fun i acc S => ∃ (ys : List Int) (a : α), acc = ys.map D.int ∧ ys.length = i ∧ P i ys a ∧ S = st a) ?_ ?_ _ _ ⟨[], a0, rfl, rfl, h0, rfl⟩
  · rintro i d acc S Kx hd ⟨ys, a, rfl, hl, hP, rfl⟩ hK
    obtain ⟨hi, rfl⟩ := rngD_get hd
    have e : (0 : Int) + (i : Int) * 1 = (i : Int) := by omega
    rw [e]
    show setK (st a) k (.v (.int i)) _
    rw [setK_eq]
    refine iteP_pos rfl ?_
    refine h i ys a _ hi hl hP fun y a' hy => ?_
    show (ys.map D.int).length < sizeLine ∧ Kx (ys.map D.int ++ [.int y]) (wipeM ((st a').set k (.v (.int i))) [k])
    refine ⟨by rw [List.length_map, hl]; omega, hK _ _ ⟨ys ++ [y], a', by rw [List.map_append]; rfl, by rw [List.length_append, hl]; rfl, hy, ?_⟩⟩
    show (((st a').set k (.v (.int i))).set k .gone) = st a'
    rw [List.set_set]
    exact back a'
  · rintro acc S ⟨ys, a, rfl, hl, hP, rfl⟩
    rw [rngD_len] at hl hP
    exact he ys a hl hP
theorem atI_of {ds : List D} {j : Nat} {d : D} (h : ds[j]? = some d) : atI ds (Int.ofNat j) = some d := L2.atI_nat h
theorem atI_map {α : Type} {f : α → D} {xs : List α} {j : Nat} {x : α} (h : xs[j]? = some x) : atI (xs.map f) (Int.ofNat j) = some (f x) := L2.atI_nat (by rw [List.getElem?_map, h]; rfl)
/-- all(test for x in xs): p the test -/
theorem gl_all {α : Type} {f : α → D} {k : Nat} {te : FE} {Kf : Bool → List M → Prop} {S0 : List M} (hS : S0[k]? = some .gone) (p : α → Bool) : ∀ {xs : List α},
    (∀ x ∈ xs, ∀ R : RMx, R (.v (.bl (p x))) (S0.set k (.v (f x))) → te (S0.set k (.v (f x))) R X0) → Kf (xs.all p) S0 → GxL (gNm k) te [k] false Kf (xs.map f) S0 := by
  have back : (S0.set k .gone) = S0 := by
    apply List.ext_getElem?
    intro j
    by_cases e : k = j
    · subst e
      rw [List.getElem?_set_self (List.getElem?_eq_some_iff.mp hS).1, hS]
    · rw [List.getElem?_set_ne e]
  intro xs
  induction xs with
  | nil => intro _ h; exact ⟨h⟩
  | cons x xs ih =>
    intro h hk
    refine ⟨?_⟩
    show setK S0 k (.v (f x)) _
    rw [setK_eq]
    refine h x List.mem_cons_self _ ?_
    have w : wipeM (S0.set k (.v (f x))) [k] = S0 := by
      show ((S0.set k (.v (f x))).set k .gone) = S0
      rw [List.set_set]
      exact back
    show iteP (p x) (gxL (gNm k) te [k] false Kf (xs.map f) (wipeM (S0.set k (.v (f x))) [k])) (Kf false (wipeM (S0.set k (.v (f x))) [k]))
    rw [w]
    rw [List.all_cons] at hk
    cases q : p x with
    | true =>
      rw [q, Bool.true_and] at hk
      exact iteP_pos rfl (ih (fun y hy => h y (List.mem_cons_of_mem _ hy)) hk).go
    | false =>
      rw [q, Bool.false_and] at hk
      exact iteP_neg rfl hk
theorem gl_any {α : Type} {f : α → D} {k : Nat} {te : FE} {Kf : Bool → List M → Prop} {S0 : List M} (hS : S0[k]? = some .gone) (p : α → Bool) : ∀ {xs : List α},
    (∀ x ∈ xs, ∀ R : RMx, R (.v (.bl (p x))) (S0.set k (.v (f x))) → te (S0.set k (.v (f x))) R X0) → Kf (xs.any p) S0 → GxL (gNm k) te [k] true Kf (xs.map f) S0 := by
  have back : (S0.set k .gone) = S0 := by
    apply List.ext_getElem?
    intro j
    by_cases e : k = j
    · subst e
      rw [List.getElem?_set_self (List.getElem?_eq_some_iff.mp hS).1, hS]
    · rw [List.getElem?_set_ne e]
  intro xs
  induction xs with
  | nil => intro _ h; exact ⟨h⟩
  | cons x xs ih =>
    intro h hk
    refine ⟨?_⟩
    show setK S0 k (.v (f x)) _
    rw [setK_eq]
    refine h x List.mem_cons_self _ ?_
    have w : wipeM (S0.set k (.v (f x))) [k] = S0 := by
      show ((S0.set k (.v (f x))).set k .gone) = S0
      rw [List.set_set]
      exact back
    show iteP (p x) (Kf true (wipeM (S0.set k (.v (f x))) [k])) (gxL (gNm k) te [k] true Kf (xs.map f) (wipeM (S0.set k (.v (f x))) [k]))
    rw [w]
    rw [List.any_cons] at hk
    cases q : p x with
    | true =>
      rw [q, Bool.true_or] at hk
      exact iteP_pos rfl hk
    | false =>
      rw [q, Bool.false_or] at hk
      exact iteP_neg rfl (ih (fun y hy => h y (List.mem_cons_of_mem _ hy)) hk).go
end
section
variable [Tabs] {X : Cx} {W : WX} {mask : List Bool}
theorem dss_pc {sts : List Stmt} {b : FS} (h : DSs X W mask sts b) : DSs X W mask sts (sPc b) := ⟨pss_le h.ps fun D σ H z => by
  obtain ⟨G, S, E, l, rs, hF, r⟩ := z
  exact ⟨G, S, E, l, rs, hF.get, r⟩⟩
end
end DM

/-! A list (or a tuple) in a slot walked while the body may read it. -/
namespace DM
open PySem PySem.Spec PyProof.Rows
open L2
def forK (i : Nat) (m : M) (g : FG) (b : FS) (E : EM) : List D → List M → Prop
  | [], S => S[i]? = some m ∧ E.nx S
  | d :: ds, S => S[i]? = some m ∧ g (.v d) S (fun S1 => b { E with nx := forK i m g b E ds, ct := forK i m g b E ds, bk := E.nx } S1) E.ex
structure ForK (i : Nat) (m : M) (g : FG) (b : FS) (E : EM) (ds : List D) (S : List M) : Prop where
  go : forK i m g b E ds S
def sForK (i : Nat) (g : FG) (b : FS) : FS := fun E S => getK S i (fun m => ∃ ds, sqV m = some ds ∧ ForK i m g b E ds S) False
section
variable [Tabs] {X : Cx} {W : WX} {mask : List Bool}
theorem forK_core {mask' : List Bool} {i : Nat} {g : FG} {f : FS} {E : EM} {Dn : Ends} {G : List Pr} {σ : L2.St} {S : List M} {H : Hp} {a : Addr} {m : M} {ds : List D} {J : It} {Q : It → Hp → Prop} (hmi : mask'[i]? = some true) (hsub : ∀ j : Nat, mask[j]? = some true → mask'[j]? = some true)
    (l : σ.length = S.length) (rs : RS X.K H (G ++ σ.zip S)) (e1 : σ[i]? = some (some (.ref a))) (sv : Serve X.K J [(some (.ref a), m)] ds) (hF : ForK i m g f E ds S)
    (nx : ∀ S' σ' H', Ag mask σ σ' → σ'.length = S'.length → E.nx S' → RS X.K H' (G ++ σ'.zip S') → Dn.nx σ' H') (rt : ∀ r S' v σ' H', Ag mask σ σ' → σ'.length = S'.length → E.rt r S' → RS X.K H' ((some v, r) :: (G ++ σ'.zip S')) → Dn.rt v H')
    (ex : ∀ c fs S' d σ' H', Ag mask σ σ' → σ'.length = S'.length → E.ex (c, fs) S' → XOk X.K H' d fs (G ++ σ'.zip S') → W c d σ' H') :
    ∃ Wt : Nat → Nat → L2.St → Hp → Prop, (∃ k, Wt 0 k σ H) ∧ ∀ j n σ1 H1, Wt j n σ1 H1 → (J.stop j H1 ∧ Dn.nx σ1 H1) ∨ (J.go j H1 ∧ ∃ Nx : L2.St → Hp → Prop, (∀ σ' H', Nx σ' H' → ∃ m', m' < n ∧ Wt (j + 1) m' σ' H') ∧
      ∀ x H2, J.yld j H1 x H2 → tDG X.K W mask' g x σ1 H2 fun σ2 H3 => tDS X.K W mask' f { nx := Nx, rt := Dn.rt, bk := Dn.nx, ct := Nx } σ2 H3) := by
  have at_ : ∀ {σ' : L2.St}, Ag mask' σ σ' → σ'[i]? = some (some (.ref a)) := fun ag => (ag.same i hmi).trans e1
  refine ⟨fun j n σ' H' => ∃ S', Ag mask' σ σ' ∧ σ'.length = S'.length ∧ RS X.K H' (G ++ σ'.zip S') ∧ j + n = ds.length ∧ forK i m g f E (ds.drop j) S', ⟨ds.length, S, Ag.refl σ, l, rs, Nat.zero_add _, hF.go⟩, fun j n σ1 H1 hW => ?_⟩
  obtain ⟨S1, ag1, l1, rs1, en, h1⟩ := hW
  have slot : S1[i]? = some m := by
    cases q : ds.drop j with
    | nil => rw [q] at h1; exact h1.1
    | cons d r => rw [q] at h1; exact h1.1
  obtain ⟨x0, e2, r1⟩ := rs1.take l1 slot
  rw [at_ ag1] at e2
  cases e2
  obtain ⟨t1, t2⟩ := sv j H1 _ r1
  cases eg : ds[j]? with
  | none =>
    have hl : ds.length ≤ j := List.getElem?_eq_none_iff.mp eg
    rw [List.drop_eq_nil_of_le hl] at h1
    exact .inl ⟨t2 hl, nx _ σ1 H1 (ag1.sub hsub) l1 h1.2 rs1⟩
  | some d =>
    have hl : j < ds.length := (List.getElem?_eq_some_iff.mp eg).1
    rw [List.drop_eq_getElem_cons hl, (List.getElem?_eq_some_iff.mp eg).2] at h1
    obtain ⟨g1, g2⟩ := t1 d eg
    refine .inr ⟨g1, fun σ' H' => ∃ S', Ag mask' σ σ' ∧ σ'.length = S'.length ∧ RS X.K H' (G ++ σ'.zip S') ∧ forK i m g f E (ds.drop (j + 1)) S', fun σ' H' ⟨S', z1, z2, z3, z4⟩ => ⟨n - 1, by omega, S', z1, z2, z3, by omega, z4⟩, fun y H2 hy => ?_⟩
    have rs2 : RS X.K H2 ((some y, .v d) :: (G ++ σ1.zip S1)) := by
      have q := RS.lent (L1 := [(some y, .v d)]) (i := i) (S := S1.set i .gone) (g2 y H2 hy) (by rw [List.length_set]; exact l1) (at_ ag1)
      have e3 : (S1.set i .gone).set i m = S1 := by
        rw [List.set_set]
        apply List.ext_getElem?
        intro k
        by_cases e : i = k
        · subst e
          rw [List.getElem?_set_self (List.getElem?_eq_some_iff.mp slot).1, slot]
        · rw [List.getElem?_set_ne e]
      rw [e3] at q
      exact q
    refine ⟨G, S1, .v d, _, E.ex, l1, rs2, h1.2, fun S2 σ2 H3 ag2 l2 h2 rs3 => ?_, fun c fs S' dd σ' H' ag l' hx xo => ex c fs S' dd σ' H' ((ag1.trans ag).sub hsub) l' hx xo⟩
    have ag12 := ag1.trans ag2
    exact ⟨G, S2, _, l2, rs3, h2, fun S' σ' H' ag l' hn rs' => ⟨S', ag12.trans ag, l', rs', hn⟩, fun r S' v σ' H' ag l' hr rs' => rt r S' v σ' H' ((ag12.trans ag).sub hsub) l' hr rs', fun S' σ' H' ag l' hn rs' => nx S' σ' H' ((ag12.trans ag).sub hsub) l' hn rs',
      fun S' σ' H' ag l' hn rs' => ⟨S', ag12.trans ag, l', rs', hn⟩, fun c fs S' dd σ' H' ag l' hx xo => ex c fs S' dd σ' H' ((ag12.trans ag).sub hsub) l' hx xo⟩
theorem ds_forK {mask' : List Bool} {i : Nat} {x : Str} {tg : Expr} {body : List Stmt} {g : FG} {f : FS} {p pos : Pos} (hp : PassesOwn (model X.prog X.w) X.A X.env X.xe) (hc : X.calm = true) (hmi : mask'[i]? = some true) (hsub : ∀ j : Nat, mask[j]? = some true → mask'[j]? = some true) (hg : DG X W mask' tg g) (hb : DSs X W mask' body f)
    (hN : X.N[i]? = some x := by rfl) (hv : Vis X.env.scope x := by first | exact Or.inl rfl | exact Or.inr (Or.inl rfl) | exact Or.inr (Or.inr rfl)) (hd : (x == ("__debug__" : Str)) = false := by decide) (hcd : (x == ("__classdict__" : Str)) = false := by decide)
    (hs : ∀ z, foldedSetIterable (.Name x p) X.env z = pure z := by intro _; rfl) : DS X W mask (.For tg (.Name x p) body [] pos) (sForK i g f) := ⟨ps_le (ps_for hp hc (pi_any (pe_var hN hv hd hcd)) hg.pg hb.ps hs) fun D σ H h => by
  obtain ⟨G, S, E, l, rs, hF, nx, rt, bk, ct, ex⟩ := h
  unfold sForK at hF
  cases e : S[i]? with
  | none =>
    rw [getK_none e] at hF
    exact hF.elim
  | some m =>
    rw [getK_some e] at hF
    obtain ⟨ds, em, hF⟩ := hF
    obtain ⟨x0, e1, r1⟩ := rs.take l e
    obtain ⟨O, f1, n, hm1, _⟩ := RS.one r1
    have hcase : lsV m = some ds ∨ tpV m = some ds := by
      rcases sqV_cases em with rfl | rfl | rfl
      · exact .inr rfl
      · exact .inl rfl
      · exact .inl rfl
    rcases hcase with em | em
    · obtain ⟨a, vs, e2, s1, _⟩ := hm1.ls em
      subst e2
      exact ⟨.ref a, e1, .inl ⟨a, rfl, ⟨vs, s1⟩, forK_core (Dn := D) (Q := fun _ _ => True) hmi hsub l rs e1 (serve_list em) hF nx rt ex⟩⟩
    · obtain ⟨a, vs, e2, s1, _⟩ := hm1.tp em
      subst e2
      exact ⟨.ref a, e1, .inr (.inl ⟨a, rfl, ⟨vs, s1⟩, forK_core (Dn := D) (Q := fun _ _ => True) hmi hsub l rs e1 (serve_tup em) hF nx rt ex⟩)⟩⟩
end
theorem forK_by {i : Nat} {m : M} {g : FG} {b : FS} {E : EM} (P : Nat → List M → Prop) {ds : List D} (h : ∀ (j : Nat) (d : D) (S : List M) (K : List M → Prop), ds[j]? = some d → P j S → (∀ S', P (j + 1) S' → K S') → g (.v d) S (fun S1 => b { E with nx := K, ct := K, bk := E.nx } S1) E.ex)
    (he : ∀ S, P ds.length S → E.nx S) (S : List M) (h0 : P 0 S) (hm : ∀ j S, P j S → S[i]? = some m := by
      intro j S h
      first
        | (obtain ⟨rfl, _⟩ := h; rfl)
        | (obtain ⟨_, rfl, _⟩ := h; rfl)
        | (obtain ⟨_, _, rfl, _⟩ := h; rfl)
        | (obtain ⟨_, _, _, rfl, _⟩ := h; rfl)
        | (obtain ⟨_, _, _, _, rfl, _⟩ := h; rfl)
        | (obtain ⟨_, _, _, _, _, rfl, _⟩ := h; rfl)
        | (obtain ⟨_, _, _, _, _, _, rfl, _⟩ := h; rfl)
        | (obtain ⟨_, rfl⟩ := h; rfl)
        | (obtain ⟨_, _, rfl⟩ := h; rfl)
        | (obtain ⟨_, _, _, rfl⟩ := h; rfl)
        | (obtain ⟨_, _, _, _, rfl⟩ := h; rfl)) : ForK i m g b E ds S := by
  have go : ∀ (n j : Nat), n = ds.length - j → j ≤ ds.length → ∀ S, P j S → forK i m g b E (ds.drop j) S := by
    intro n
    induction n with
    | zero =>
      intro j hn hj S hP
      have e : j = ds.length := by omega
      subst e
      rw [List.drop_length]
      exact ⟨hm _ S hP, he S hP⟩
    | succ n ih =>
      intro j hn hj S hP
      have hl : j < ds.length := by omega
      rw [List.drop_eq_getElem_cons hl]
      exact ⟨hm _ S hP, h j ds[j] S _ (List.getElem?_eq_getElem hl) hP fun S' hP' => ih (j + 1) (by omega) (by omega) S' hP'⟩
  have q := go _ 0 rfl (Nat.zero_le _) S h0
  rw [List.drop_zero] at q
  exact ⟨q⟩
section
local instance (priority := low) noTabs1 : Tabs := ⟨[]⟩
theorem iteP_b {b : Bool} {A B : Prop} (h1 : b = true → A) (h2 : b = false → B) : iteP b A B := by
  cases b with
  | true => exact iteP_pos rfl (h1 rfl)
  | false => exact iteP_neg rfl (h2 rfl)
theorem cut_dropN {α : Type} (xs : List α) (k : Nat) : cut xs (some (k : Int)) none = xs.drop k := by
  unfold cut
  rw [show HT.sIx xs.length 0 (some (k : Int)) = min k xs.length from HT.sIx_nat xs.length 0 k, HT.sIx_none]
  rcases Nat.le_total k xs.length with h | h
  · rw [Nat.min_eq_left h]
    exact List.take_of_length_le (by rw [List.length_drop]; omega)
  · rw [Nat.min_eq_right h, Nat.sub_self, List.take_zero, List.drop_of_length_le h]
end
end DM

/-! sorted of a list of tuples of ints, of a dict whose keys are such. -/
namespace TSo
open PySem PySem.W PySem.Calls PyProof.Rows PyProof.V PySem.Spec
section
variable {prog : Program} {w : World} {A : Around} {E : Value → Shared → Prop} {s : Shared}
theorem lex_ints {Q : Bool → Shared → Prop} : ∀ {us vs : List Value} {ns ms : List Int} {i : Nat} {b : Bool}, IntsAre us ns → IntsAre vs ms → Q (HT.lexLt ns ms) s → KatLex prog w A b (decide (us.length < vs.length)) Q (us.zip vs) i s := by
  intro us
  induction us with
  | nil =>
    intro vs ns ms i b h1 h2 h
    cases h1
    cases h2 with
    | nil => exact kat_nil h
    | cons n t r => exact kat_nil h
  | cons u us ih =>
    intro vs ns ms i b h1 h2 h
    cases h1 with
    | cons n t r1 =>
      cases h2 with
      | nil => exact kat_nil h
      | cons m t' r2 =>
        rw [HT.lexLt_cons] at h
        rw [List.zip_cons_cons]
        refine kat_cons (SeqAt.EqAt.int_int n t m t' prog w _ _ ?_)
        refine kat_go (fun e => ?_) (fun e => ?_)
        · have ex : n = m := by simpa using e
          rw [if_pos ex] at h
          refine kat_yes ?_
          rw [List.length_cons, List.length_cons, decide_eq_decide.mpr (Nat.add_lt_add_iff_right (k := 1))]
          exact ih r1 r2 h
        · have ex : ¬ n = m := by simpa using e
          rw [if_neg ex] at h
          refine kat_no ?_
          cases b && i == 0 with
          | true => exact oneLt_int h
          | false => exact kat_one _ _ (PyProof.Rows.lt_int h)
theorem tup_cmp {vs : List Value} {k : Value → List Int} (hp : ∀ v ∈ vs, TS.TupInts s.heap v (k v)) : SrtO.Cmp prog w A s (tuples' true) (fun p => p.1 ∈ vs) (SrtO.lt2 fun v u => HT.lexLt (k v) (k u)) := by
  intro p q hm hm'
  obtain ⟨a, xs, e, ⟨o, ho, hc, n, hd⟩, i⟩ := hp _ hm
  obtain ⟨a', xs', e', ⟨o', ho', hc', n', hd'⟩, i'⟩ := hp _ hm'
  show wpAny (model prog w) A (keyLt' (tuples' true) p.1 q.1) (fun r s' => s' = s ∧ r = HT.lexLt (k p.1) (k q.1)) (fun _ _ => False) s
  generalize k p.1 = ns at i ⊢
  generalize k q.1 = ms at i' ⊢
  rw [e, e']
  refine kat_lt ho hd ho' hd' ?_
  have := lex_ints (prog := prog) (w := w) (A := A) (s := s) (Q := fun r s' => s' = s ∧ r = HT.lexLt ns ms) (i := 0) (b := true) i i' ⟨rfl, rfl⟩
  rw [Array.length_toList, Array.length_toList] at this
  exact this
theorem firsts_of {h : Heap} {k : Value → List Int} : ∀ vs : List Value, (∀ v ∈ vs, TS.TupInts h v (k v) ∧ k v ≠ []) → ∃ fs, KatTups h vs fs ∧ fs.length = vs.length ∧ ∀ f, f ∈ fs → ∃ n t, f = Value.int n t
  | [], _ => ⟨[], KatTups.nil, rfl, fun f hf => by simp at hf⟩
  | v :: vs, x => by
    obtain ⟨fs, kt, hl, hi⟩ := firsts_of vs fun u hu => x u (List.mem_cons_of_mem _ hu)
    obtain ⟨⟨a, xs, rfl, ⟨o, ho, hc, n, hdt⟩, i⟩, hn⟩ := x v (List.mem_cons_self ..)
    obtain ⟨y, ys, e⟩ : ∃ y ys, xs.toList = y :: ys := by
      cases q : xs.toList with
      | nil =>
        rw [q] at i
        cases hk : k (Value.ref a) with
        | nil => exact absurd hk hn
        | cons _ _ => rw [hk] at i; cases i
      | cons y ys => exact ⟨y, ys, rfl⟩
    have e0 : xs[0]? = some y := by
      rw [← Array.getElem?_toList, e]
      rfl
    refine ⟨y :: fs, KatTups.cons ho hc hdt e0 kt, by rw [List.length_cons, List.length_cons, hl], fun f hf => ?_⟩
    rcases List.mem_cons.mp hf with rfl | hf
    · rw [e] at i
      generalize k (Value.ref a) = z at i
      cases i with
      | cons m t r => exact ⟨m, t, rfl⟩
    · exact hi f hf
theorem tups_sortableO {a : Addr} {vs : List Value} {k : Value → List Int} (h0 : 0 < vs.length) (hp : ∀ v ∈ vs, TS.TupInts s.heap v (k v) ∧ k v ≠ []) (ha : ∀ o, s.heap.get? a = some o → o.cls ≠ .type "tuple") : SrtO.SortableO prog w A s a vs fun v u => HT.lexLt (k v) (k u) := by
  intro h' keep
  have hp' : ∀ v ∈ vs, TS.TupInts h' v (k v) ∧ k v ≠ [] := fun v hm => ⟨(hp v hm).1.keeps fun b o e c => keep b o (fun z => by subst z; exact ha o e c) e, (hp v hm).2⟩
  obtain ⟨fs, h1, h2, h3⟩ := firsts_of vs hp'
  refine ⟨tuples' true, fun Q E hq => ?_, tup_cmp fun v hm => (hp' v hm).1⟩
  refine PySem.W.kat_kind (T := .type "int") h1 (by omega) (fun f hm => ?_) (by rfl) ?_
  · obtain ⟨x, t, rfl⟩ := h3 f hm
    exact PySem.W.Looks.now
  · have e : (Value.type "int" != Value.type "tuple") = true := by first | decide +kernel | rfl | decide
    rw [e]
    exact hq
end
end TSo
namespace L2
open PySem PySem.Spec PyProof.Rows
section
variable {X : Cx}
/-- x before y or neither, by their ints -/
def LeT (K : PySem.W.Frag) (H : Hp) (x y : V) : Prop := ∀ n m, TupI K H x n → TupI K H y m → HT.lexLt m n = false
def rSortO (K : PySem.W.Frag) : List V → Hp → VK → Prop := fun vs H Q => ∃ (a : Addr) (xs : List V), vs = [V.ref a] ∧ SqL K H a xs ∧ (∀ x ∈ xs, ∃ ns, TupI K H x ns ∧ ns ≠ []) ∧
  ∀ (ys : List V) (p : Addr), ys.Perm xs → ys.Pairwise (LeT K H) → H p = none → Q (.ref p) (upd H p (.lst ys))
theorem cr_sortO : CallR X (.builtin "sorted") (rSortO X.K) := by
  intro pins s σ H vs us Q I r h
  obtain ⟨a, xs, rfl, hs, hx, q⟩ := h
  obtain ⟨its, rv, hl, hz⟩ := I.list hs
  rw [Vals.ref1 r]
  obtain ⟨e1, e2⟩ := bkV_refs rv fun x m => by
    obtain ⟨ns, ⟨t, e, _⟩, _⟩ := hx x m
    exact ⟨t, e⟩
  have hi : ∀ v ∈ its, TS.TupInts s.heap v (TS.intsOf s.heap v) ∧ TS.intsOf s.heap v ≠ [] := fun v hv => by
    obtain ⟨t, rfl⟩ := e2 v hv
    have hm : V.ref t ∈ xs := by
      rw [e1]
      exact List.mem_map.mpr ⟨_, hv, rfl⟩
    obtain ⟨ns, ⟨t', e, ht⟩, hn⟩ := hx _ hm
    cases e
    have x := tupI_raw I ht
    rw [x.ints]
    exact ⟨x, hn⟩
  refine SrtO.sorted_ord (NtL.swo_lexL (TS.intsOf s.heap)) hl.isList (by rw [← rv.length]; exact hz) (fun h2 h₁ a' ha kk => ?_) fun out h1 h2 => ?_
  · refine TSo.tups_sortableO (s := { s with heap := h₁ }) (by omega) (fun v hm => ⟨(hi v hm).1.keeps fun b o e _ => (kk b o e).2, (hi v hm).2⟩) fun o e => ?_
    have e' : some o = some (seqObj "list" its.toArray 0) := e.symm.trans ha
    cases e'
    intro c
    exact absurd (Value.type.inj c) (by decide)
  · obtain ⟨ep, he'⟩ := PyProof.Rows.sortedAll_at s.heap its out.toArray
    have h3 : ∀ u ∈ out, ∃ a, u = Value.ref a := fun u hu => e2 u (h2.perm.mem_iff.mp hu)
    have hp : (out.map bkV).Perm xs := by
      rw [e1]
      exact h2.perm.map bkV
    have hlen : (out.map bkV).length ≤ sizeLine := by
      rw [hp.length_eq]
      exact hz
    refine ⟨.ref _, upd H (s.heap.objs.size + 1) (.lst (out.map bkV)), I.laid (t' := s.toks) (fun _ _ => PyProof.Rows.sortedAll_old) (Nat.le_succ _) ⟨hlen, out, ep, bkV_vals h3, he'⟩, rfl, q _ _ hp ?_ (I.hok.fresh (Nat.le_succ _))⟩
    rw [List.pairwise_map]
    refine List.Pairwise.imp (fun {u v} huv n m hn hm => ?_) h1
    obtain ⟨t, et, ht⟩ := hn
    obtain ⟨t', et', ht'⟩ := hm
    have i1 : TS.intsOf s.heap u = n := by
      rw [bkV_ref et]
      exact (tupI_raw I ht).ints
    have i2 : TS.intsOf s.heap v = m := by
      rw [bkV_ref et']
      exact (tupI_raw I ht').ints
    rw [← i1, ← i2]
    exact huv
/-- sorted(d) of a dict with keys that are tuples of ints -/
def rSortDT (K : PySem.W.Frag) : List V → Hp → VK → Prop := fun vs H Q => ∃ (a : Addr) (kvs : List (List Key × V)), vs = [V.ref a] ∧ Rd H a (.dT kvs) ∧ (∀ kv ∈ kvs, ∃ ns : List Int, kv.1 = ns.map Sum.inl ∧ ns ≠ []) ∧
  ∀ (bs : List Addr) (ys : List V) (p : Addr), IsKeys H kvs bs → ys.Perm (bs.map V.ref) → ys.Pairwise (LeT K H) → H p = none → Q (.ref p) (upd H p (.lst ys))
theorem keys_tup {H : Hp} {kvs : List (List Key × V)} {bs : List Addr} (hk : ∀ kv ∈ kvs, ∃ ns : List Int, kv.1 = ns.map Sum.inl ∧ ns ≠ []) (h : IsKeys H kvs bs) : ∀ b ∈ bs, ∃ ns : List Int, H b = some (.tup (ns.map V.int)) ∧ ns ≠ [] := by
  unfold IsKeys at h
  induction h with
  | nil => exact fun _ z => nomatch z
  | @cons kv b kvs bs h t ih =>
    intro c hc
    rcases List.mem_cons.mp hc with rfl | hc
    · obtain ⟨ns, e, hn⟩ := hk kv List.mem_cons_self
      rw [e, List.map_map] at h
      exact ⟨ns, h, hn⟩
    · exact ih (fun kv' h' => hk kv' (List.mem_cons_of_mem _ h')) c hc
theorem cr_sortDT (hc : X.calm = true) : CallR X (.builtin "sorted") (rSortDT X.K) := by
  intro pins s σ H xs us Q I r h
  obtain ⟨d, kvs, rfl, hd, hk, q⟩ := h
  obtain ⟨u, rfl, rx⟩ := r.one
  cases rx
  obtain ⟨z, hs, ks, pr, o, es, ep, ho, hx, hdt, he, hn⟩ := (show ObjOk X.prog X.w H s.heap d (.dT kvs) from hd.ok I.hok)
  have l1 : es.size = ks.length := size_of_entries he
  have l2 : kvs.length = ks.length := Paired.length pr
  refine Calls.call_function_entry PyProof.Rows.kind_sorted PyProof.Rows.plain_sorted PyProof.Rows.entry_sorted (PyProof.Rows.args_sorted1 _) ?_
  unfold Builtin.«sorted»
  refine wpAny_bind (m := checkCount "sorted" 1 1 _) (wpAny_pure ?_)
  refine wpAny_bind (PySem.W.kdu_collect (A := X.A.in1) (kdl_raw hs hx hdt) (I.ok.hd hc) ho (by omega) fun h' tk acc' kp it => ?_)
  have ea : acc'.toList = ks.map fun x => Value.ref x.2.1 := by
    have hl : acc'.toList.length = ks.length := by rw [Array.length_toList, it.1]; exact l1
    apply List.ext_getElem?
    intro j
    rw [List.getElem?_map]
    cases hj : acc'.toList[j]? with
    | none =>
      have h1 := List.getElem?_eq_none_iff.mp hj
      rw [List.getElem?_eq_none (by omega)]
      all_goals rfl
    | some v =>
      obtain ⟨en, hen, hv⟩ := it.2 j v (by rw [← Array.getElem?_toList]; exact hj)
      have qe := entry_at he j
      rw [hen] at qe
      cases hb : ks[j]? with
      | none =>
        rw [hb] at qe
        exact nomatch (show some en = none from qe)
      | some b =>
        rw [hb] at qe
        have e2 : en = entryOfKey (tupleKind (mixKind X.prog X.w)) b := Option.some.inj qe
        rw [hv, e2]
        all_goals rfl
  have eb : acc'.toList = (ks.map fun x => x.2.1).map Value.ref := by rw [ea, List.map_map]; all_goals rfl
  have ik : IsKeys H kvs (ks.map fun x => x.2.1) := isKeys_of pr
  have hbl : (ks.map fun x => x.2.1).length ≤ sizeLine := by rw [List.length_map]; omega
  generalize (ks.map fun x => x.2.1) = bs at eb ik hbl
  have hal : acc'.toList.length = bs.length := by rw [eb, List.length_map]
  have I1 : Inv X pins σ H { s with heap := h', toks := tk } := I.kept kp
  have hi : ∀ v ∈ acc'.toList, TS.TupInts h' v (TS.intsOf h' v) ∧ TS.intsOf h' v ≠ [] := fun v hv => by
    rw [eb] at hv
    obtain ⟨b, hb, rfl⟩ := List.mem_map.mp hv
    obtain ⟨ns, ht, hne⟩ := keys_tup hk ik b hb
    have x : TS.TupInts h' (.ref b) ns := tupI_raw I1 (.inl (.inl ht))
    rw [x.ints]
    exact ⟨x, hne⟩
  refine wpAny_bind (wpAny_newList ?_ (by rw [hal]; exact hbl))
  have hoL : (h'.push (seqObj "list" acc'.toList.toArray 0)).get? h'.objs.size = some (seqObj "list" acc'.toList.toArray 0) := Heap.get?_push_size _ rfl
  show wpAny _ _ _ _ _ { s with heap := h'.push (seqObj "list" acc'.toList.toArray 0), toks := tk }
  refine wpAny_bind (wpAny_holding (wpAny_call_entry PyProof.Rows.slot_list_sort ⟨_, hoL, rfl⟩ PyProof.Rows.entry_list_sort
    (SrtO.list_sort_ord (s := { s with heap := h'.push (seqObj "list" acc'.toList.toArray 0), toks := tk }) (NtL.swo_lexL (TS.intsOf h')) hoL (by rw [hal]; exact hbl) (fun h2 => ?_) fun out h1 h2 => ⟨_, rfl, ?_⟩)
    (PyProof.Rows.args_list_sort _)))
  · refine TSo.tups_sortableO (by omega) (fun v hm => ⟨(hi v hm).1.keeps fun b o e _ => Heap.get?_push_of_some _ e, (hi v hm).2⟩) fun o e => ?_
    have e' : some o = some (seqObj "list" acc'.toList.toArray 0) := e.symm.trans hoL
    cases e'
    intro c
    exact absurd (Value.type.inj c) (by decide)
  obtain ⟨e', he'⟩ := PyProof.Rows.sortedHeap_at (vs := acc'.toList) (out := out.toArray) hoL
  have h3 : ∀ u ∈ out, ∃ a, u = Value.ref a := fun u hu => by
    have := h2.perm.mem_iff.mp hu
    rw [eb] at this
    obtain ⟨b, _, rfl⟩ := List.mem_map.mp this
    exact ⟨b, rfl⟩
  have hp : (out.map bkV).Perm (bs.map V.ref) := by
    have e1 : bs.map V.ref = acc'.toList.map bkV := by rw [eb, List.map_map]; rfl
    rw [e1]
    exact h2.perm.map bkV
  have hlen : (out.map bkV).length ≤ sizeLine := by
    rw [hp.length_eq, List.length_map]
    exact hbl
  refine wpAny_pure ⟨_, rfl, .ref h'.objs.size, upd H h'.objs.size (.lst (out.map bkV)), I1.laid (t' := tk) (fun b u e => ?_) (Nat.le_refl _)
    (show ObjOk X.prog X.w _ _ _ (.lst (out.map bkV)) from ⟨hlen, out, e', bkV_vals h3, he'⟩), rfl, q bs _ _ ik hp ?_ (I1.hok.fresh (Nat.le_refl _))⟩
  · have hb : b < h'.objs.size := Heap.lt_size e
    rw [PyProof.Rows.sortedHeap_old (Nat.ne_of_lt hb) (by rw [size_push']; exact Nat.lt_succ_of_lt hb)]
    exact Heap.get?_push_of_some _ e
  · rw [List.pairwise_map]
    refine List.Pairwise.imp_of_mem (fun {u v} hu hv huv n m hn hm => ?_) h1
    have tup : ∀ {u : Value} {n : List Int}, TupI X.K H (bkV u) n → TS.intsOf h' u = n := fun {u n} hn => by
      obtain ⟨t, et, st⟩ := hn
      rw [bkV_ref et]
      exact (tupI_raw I1 st).ints
    rw [← tup hn, ← tup hm]
    exact huv
end
end L2
/-! ### the sorted list itself -/
theorem HT.lex_anti : ∀ {xs ys : List Int}, HT.lexLt xs ys = false → HT.lexLt ys xs = false → xs = ys
  | [], [], _, _ => rfl
  | [], _ :: _, h, _ => nomatch h
  | _ :: _, [], _, h => nomatch h
  | x :: xs, y :: ys, h1, h2 => by
    rw [HT.lexLt_cons] at h1 h2
    by_cases e : x = y
    · subst e
      rw [if_pos rfl] at h1 h2
      rw [HT.lex_anti h1 h2]
    · rw [if_neg e] at h1
      rw [if_neg fun z => e z.symm] at h2
      simp at h1 h2
      omega
namespace DM
open PySem PySem.Spec PyProof.Rows
open L2
def leI (a b : List Int) : Bool := !HT.lexLt b a
def Up (l : List (List Int)) : Prop := l.Pairwise fun a b => HT.lexLt b a = false
/-- sorted, tuples of ints -/
def lsort (l : List (List Int)) : List (List Int) := l.mergeSort leI
theorem lsort_perm (l : List (List Int)) : (lsort l).Perm l := List.mergeSort_perm l leI
theorem lsort_up (l : List (List Int)) : Up (lsort l) := by
  have h := List.pairwise_mergeSort (le := leI) (fun a b c h1 h2 => by
    unfold leI at *
    simp at *
    exact NtL.lex_tr _ _ _ h1 h2) (fun a b => by
    unfold leI
    cases q : HT.lexLt b a with
    | false => rfl
    | true => rw [NtL.lex_asym _ _ q]; rfl) l
  refine h.imp fun {a b} z => ?_
  unfold leI at z
  simpa using z
theorem up_uniq : ∀ {l m : List (List Int)}, Up l → Up m → l.Perm m → l = m
  | [], m, _, _, h => (List.Perm.eq_nil h.symm).symm
  | x :: l, [], _, _, h => absurd h.length_eq (by simp)
  | x :: l, y :: m, hl, hm, h => by
    have hx := (List.pairwise_cons.mp hl).1
    have hy := (List.pairwise_cons.mp hm).1
    have e : x = y := by
      rcases List.mem_cons.mp (h.mem_iff.mp List.mem_cons_self) with e | q1
      · exact e
      rcases List.mem_cons.mp (h.mem_iff.mpr List.mem_cons_self) with e | q2
      · exact e.symm
      exact HT.lex_anti (hy x q1) (hx y q2)
    subst e
    rw [up_uniq (List.pairwise_cons.mp hl).2 (List.pairwise_cons.mp hm).2 h.cons_inv]
theorem lsort_is {l m : List (List Int)} (h1 : Up m) (h2 : m.Perm l) : lsort l = m := up_uniq (lsort_up l) h1 ((lsort_perm l).trans h2.symm)
theorem lsort_same {l m : List (List Int)} (h : l.Perm m) : lsort l = lsort m := lsort_is (lsort_up m) ((lsort_perm m).trans h.symm)
def tupD (ns : List Int) : D := .tup (ns.map D.int)
section
variable [Tabs] {K : PySem.W.Frag} {H : Hp} {O : List Addr}
mutual
theorem RM.notup : ∀ {x : Option V} {m : M} {fp : List Addr}, RM K H O x m fp → ∀ a ∈ fp, ∀ fs, H a ≠ some (.tup fs)
  | _, _, _, .gone x, a, z => nomatch z
  | _, _, _, .v h, a, z => nomatch z
  | _, _, _, .ml h r, a, z => by rw [List.mem_singleton] at z; subst z; rw [h]; intro fs e; cases e
  | _, _, _, .mk h e r, a, z => by rw [List.mem_singleton] at z; subst z; rw [h]; intro fs e; cases e
  | _, _, _, .mt h e r, a, z => by rw [List.mem_singleton] at z; subst z; rw [h]; intro fs e; cases e
  | _, _, _, .mo h e l r, a, z => by
    rcases List.mem_cons.mp z with z | z
    · subst z; rw [h]; intro fs e; cases e
    · exact RL.notup r a z
  | _, _, _, .mkm h e l r, a, z => by
    rcases List.mem_cons.mp z with z | z
    · subst z; rw [h]; intro fs e; cases e
    · exact RL.notup r a z
theorem RL.notup : ∀ {L : List Pr} {fp : List Addr}, RL K H O L fp → ∀ a ∈ fp, ∀ fs, H a ≠ some (.tup fs)
  | _, _, .nil _, a, z => nomatch z
  | _, _, .cons h r, a, z => by
    rcases List.mem_append.mp z with z | z
    · exact RM.notup h a z
    · exact RL.notup r a z
end
theorem ints_to : ∀ (ns : List Int), RDs K H O (ns.map V.int) (ns.map D.int)
  | [] => .nil
  | n :: ns => .cons (.int n) (ints_to ns)
theorem ints_from : ∀ {ns : List Int} {vs : List V}, RDs K H O vs (ns.map D.int) → vs = ns.map V.int
  | [], _, .nil => rfl
  | n :: ns, _, .cons h r => by
    cases h
    rw [ints_from r]
    rfl
theorem tup_from {v : V} {ns : List Int} (h : RD K H O v (tupD ns)) : TupI K H v ns := by
  unfold tupD at h
  cases h with
  | tup h r =>
    rw [ints_from r] at h
    exact ⟨_, rfl, h.sq⟩
theorem tups_from : ∀ {nss : List (List Int)} {vs : List V}, RDs K H O vs (nss.map tupD) → ∀ v ∈ vs, ∃ ns ∈ nss, TupI K H v ns
  | [], _, .nil, _, z => nomatch z
  | ns :: nss, _, .cons h r, v, z => by
    rcases List.mem_cons.mp z with rfl | z
    · exact ⟨ns, List.mem_cons_self, tup_from h⟩
    · obtain ⟨ms, m1, m2⟩ := tups_from r v z
      exact ⟨ms, List.mem_cons_of_mem _ m1, m2⟩
theorem rds_perm {ys vs : List V} (hp : ys.Perm vs) : ∀ {nss : List (List Int)}, RDs K H O vs (nss.map tupD) → ∃ mss : List (List Int), mss.Perm nss ∧ RDs K H O ys (mss.map tupD) := by
  induction hp with
  | nil =>
    intro nss h
    exact ⟨nss, .refl _, h⟩
  | cons x p ih =>
    intro nss h
    cases nss with
    | nil => cases h
    | cons n nss =>
      cases h with
      | cons h r =>
        obtain ⟨mss, m1, m2⟩ := ih r
        exact ⟨n :: mss, m1.cons n, .cons h m2⟩
  | swap x y l =>
    intro nss h
    cases nss with
    | nil => cases h
    | cons n nss =>
      cases h with
      | cons h r =>
        cases nss with
        | nil => cases r
        | cons m nss =>
          cases r with
          | cons h2 r => exact ⟨m :: n :: nss, .swap _ _ _, .cons h2 (.cons h r)⟩
  | trans p q ih1 ih2 =>
    intro nss h
    obtain ⟨mss, m1, m2⟩ := ih2 h
    obtain ⟨lss, l1, l2⟩ := ih1 m2
    exact ⟨lss, l1.trans m1, l2⟩
theorem up_of : ∀ {nss : List (List Int)} {ys : List V}, RDs K H O ys (nss.map tupD) → ys.Pairwise (LeT K H) → Up nss
  | [], _, .nil, _ => List.Pairwise.nil
  | ns :: nss, _, .cons h r, hp => by
    obtain ⟨p1, p2⟩ := List.pairwise_cons.mp hp
    refine List.Pairwise.cons (fun ms hm => ?_) (up_of r p2)
    have back : ∀ {nss : List (List Int)} {ys : List V}, RDs K H O ys (nss.map tupD) → ∀ ms ∈ nss, ∃ v ∈ ys, TupI K H v ms := by
      intro nss
      induction nss with
      | nil => exact fun _ _ z => nomatch z
      | cons n nss ih =>
        intro ys r ms z
        cases r with
        | cons h r =>
          rcases List.mem_cons.mp z with rfl | z
          · exact ⟨_, List.mem_cons_self, tup_from h⟩
          · obtain ⟨v, v1, v2⟩ := ih r ms z
            exact ⟨v, List.mem_cons_of_mem _ v1, v2⟩
    obtain ⟨v, v1, v2⟩ := back r ms hm
    exact p1 v v1 _ _ (tup_from h) v2
theorem rds_sorted {ys vs : List V} {nss : List (List Int)} (hp : ys.Perm vs) (h : RDs K H O vs (nss.map tupD)) (hu : ys.Pairwise (LeT K H)) : RDs K H O ys ((lsort nss).map tupD) := by
  obtain ⟨mss, m1, m2⟩ := rds_perm hp h
  rw [lsort_is (up_of m2 hu) m1]
  exact m2
theorem rds_keys {kvs : List (List DKey × V)} {bs : List Addr} (no : ∀ a ∈ O, ∀ fs, H a ≠ some (.tup fs)) (h : IsKeys H kvs bs) : ∀ {nss : List (List Int)}, kvs.map Prod.fst = nss.map (fun ns => ns.map Sum.inl) → RDs K H O (bs.map V.ref) (nss.map tupD) := by
  unfold IsKeys at h
  induction h with
  | nil =>
    intro nss e
    cases nss with
    | nil => exact .nil
    | cons _ _ => cases e
  | @cons kv b kvs bs h t ih =>
    intro nss e
    cases nss with
    | nil => cases e
    | cons ns nss =>
      rw [List.map_cons, List.map_cons] at e
      obtain ⟨e1, e2⟩ := List.cons.inj e
      rw [e1, List.map_map] at h
      exact .cons (.tup ⟨h, fun z => no b z _ h⟩ (ints_to ns)) (ih e2)
end
section
variable [Tabs] {X : Cx}
/-- sorted(x) of a list of tuples of ints, of a dict with such keys -/
def sortedB : BM := fun ms R => match ms with
  | [.mt ks ds] => ∃ nss : List (List Int), ks = nss.map (fun ns => ns.map Sum.inl) ∧ (∀ ns ∈ nss, ns ≠ []) ∧ R (.ml ((lsort nss).map tupD)) ms
  | [.v (.dT ks ds)] => ∃ nss : List (List Int), ks = nss.map (fun ns => ns.map Sum.inl) ∧ (∀ ns ∈ nss, ns ≠ []) ∧ R (.ml ((lsort nss).map tupD)) ms
  | [a] => ∃ nss : List (List Int), lsV a = some (nss.map tupD) ∧ (∀ ns ∈ nss, ns ≠ []) ∧ R (.ml ((lsort nss).map tupD)) ms
  | _ => False
theorem keys_ne {kvs : List (List DKey × V)} {nss : List (List Int)} (e : kvs.map Prod.fst = nss.map (fun ns => ns.map Sum.inl)) (hn : ∀ ns ∈ nss, ns ≠ []) : ∀ kv ∈ kvs, ∃ ns : List Int, kv.1 = ns.map Sum.inl ∧ ns ≠ [] := fun kv hk => by
  have := List.mem_map_of_mem (f := Prod.fst) hk
  rw [e] at this
  obtain ⟨ns, h1, h2⟩ := List.mem_map.mp this
  exact ⟨ns, h2.symm, hn ns h1⟩
theorem c_sorted (hc : X.calm = true) : CallR X (.builtin "sorted") (rB X.K sortedB) := by
  intro pins s σ H xs us Q I rx h
  obtain ⟨L, ms, R, l, rs, hb, hQ⟩ := h
  unfold sortedB at hb
  split at hb
  · obtain ⟨nss, e0, hn, hr⟩ := hb
    obtain ⟨x, rfl⟩ := one_of l
    obtain ⟨O, f1, n, h1, r⟩ := RS.one rs
    have go : ∀ {a : Addr} {kvs : List (List DKey × V)}, H a = some (.dT kvs) → kvs.map Prod.fst = nss.map (fun ns => ns.map Sum.inl) → x = .ref a → _ := fun {a kvs} hH ek ex => by
      subst ex
      exact cr_sortDT hc pins s σ H _ us Q I rx ⟨a, kvs, rfl, .inl hH, keys_ne ek hn, fun bs ys p hb hp hu hp0 => hQ _ _ _ _ hr (RS.newLst ⟨O, n, rds_sorted hp (rds_keys (fun a z => r.notup a z) hb ek) hu, r⟩ hp0)⟩
    cases h1 with
    | mt hH e r1 => exact go hH (e.trans e0) rfl
  · obtain ⟨nss, e0, hn, hr⟩ := hb
    obtain ⟨x, rfl⟩ := one_of l
    obtain ⟨O, f1, n, h1, r⟩ := RS.one rs
    cases h1 with
    | v hv =>
      cases hv with
      | dT _ hH e r1 =>
        exact cr_sortDT hc pins s σ H _ us Q I rx ⟨_, _, rfl, .inl hH, keys_ne (e.trans e0) hn, fun bs ys p hb hp hu hp0 => hQ _ _ _ _ hr (RS.newLst ⟨O, n, rds_sorted hp (rds_keys (fun a z => r.notup a z) hb (e.trans e0)) hu, r⟩ hp0)⟩
  · obtain ⟨nss, e0, hn, hr⟩ := hb
    obtain ⟨x, rfl⟩ := one_of l
    obtain ⟨O, f1, n, h1, r⟩ := RS.one rs
    obtain ⟨a, vs, e1, s1, r1⟩ := h1.ls e0
    cases e1
    exact cr_sortO pins s σ H _ us Q I rx ⟨a, vs, rfl, s1, fun v hv => by
      obtain ⟨ns, m1, m2⟩ := tups_from r1 v hv
      exact ⟨ns, m2, hn ns m1⟩, fun ys p hp hu hp0 => hQ _ _ _ _ hr (RS.newLst ⟨O, n, rds_sorted hp r1 hu, r⟩ hp0)⟩
  · exact hb.elim
end
end DM

/-! in, not in: of a list, a tuple, a dict; d.get. -/
namespace DM
open PySem PySem.Spec PyProof.Rows
open L2
section
variable [Tabs] {X : Cx} {K : PySem.W.Frag} {H : Hp} {O : List Addr}
theorem strs_from : ∀ {ns : List Str} {vs : List V}, RDs K H O vs (ns.map D.str) → vs = ns.map V.str
  | [], _, .nil => rfl
  | n :: ns, _, .cons h r => by
    cases h
    rw [strs_from r]
    rfl
theorem flat_ints (xs : List Int) : (xs.map V.int).all flatV = true := by
  rw [List.all_map]
  exact List.all_eq_true.mpr fun _ _ => rfl
theorem flat_strs (xs : List Str) : (xs.map V.str).all flatV = true := by
  rw [List.all_map]
  exact List.all_eq_true.mpr fun _ _ => rfl
theorem in_ints (i : Int) : ∀ xs : List Int, inV (.int i) (xs.map V.int) = decide (i ∈ xs)
  | [] => rfl
  | x :: xs => by
    have ih := in_ints i xs
    unfold inV at ih ⊢
    rw [List.map_cons, List.any_cons, ih]
    have e : eqV (V.int x) (V.int i) = decide (i = x) := by
      show (x == i) = _
      rw [Bool.eq_iff_iff, beq_iff_eq, decide_eq_true_eq]
      exact eq_comm
    rw [e, Bool.eq_iff_iff, Bool.or_eq_true, decide_eq_true_eq, decide_eq_true_eq, decide_eq_true_eq, List.mem_cons]
theorem in_strs (i : Str) : ∀ xs : List Str, inV (.str i) (xs.map V.str) = decide (i ∈ xs)
  | [] => rfl
  | x :: xs => by
    have ih := in_strs i xs
    unfold inV at ih ⊢
    rw [List.map_cons, List.any_cons, ih]
    have e : eqV (V.str x) (V.str i) = decide (i = x) := by
      show (x == i) = _
      rw [Bool.eq_iff_iff, beq_iff_eq, decide_eq_true_eq]
      exact eq_comm
    rw [e, Bool.eq_iff_iff, Bool.or_eq_true, decide_eq_true_eq, decide_eq_true_eq, decide_eq_true_eq, List.mem_cons]
/-- x in y -/
def memB (neg : Bool) : BM := fun ms R => match ms with
  | [.v kd, .mt ks ds] => dgP (.mt ks ds) kd fun o => R (.v (.bl (o.isSome ^^ neg))) ms
  | [.v kd, .mk ks ds] => dgP (.mk ks ds) kd fun o => R (.v (.bl (o.isSome ^^ neg))) ms
  | [.v kd, .v (.dT ks ds)] => dgP (.v (.dT ks ds)) kd fun o => R (.v (.bl (o.isSome ^^ neg))) ms
  | [.v kd, .v (.dK ks ds)] => dgP (.v (.dK ks ds)) kd fun o => R (.v (.bl (o.isSome ^^ neg))) ms
  | [.v (.int i), b] => ∃ xs : List Int, sqV b = some (xs.map D.int) ∧ R (.v (.bl (decide (i ∈ xs) ^^ neg))) ms
  | [.v (.str i), b] => ∃ xs : List Str, sqV b = some (xs.map D.str) ∧ R (.v (.bl (decide (i ∈ xs) ^^ neg))) ms
  | _ => False
def cmpIn (neg : Bool) : CmpOp := if neg then .NotIn else .In
theorem op_dict {neg : Bool} (hu : X.A.units + 1 < cLine) {pins : List (Addr × Obj)} {s : Shared} {σ : L2.St} {v u : Value} {x y : V} {Q : VK} (I : Inv X pins σ H s) (rx : RelV x v) (ry : RelV y u) {L : List Pr} {d : M} {kd : D} {R : RMx}
    (rs : RS X.K H ((some x, .v kd) :: (some y, d) :: L)) (hb : dgP d kd fun o => R (.v (.bl (o.isSome ^^ neg))) [.v kd, d]) (hQ : ∀ r ms' v H', R r ms' → RS X.K H' ((some v, r) :: (([x, y].map some).zip ms' ++ L)) → Q v H') :
    wpAny (model X.prog X.w) X.A (compareOp (cmpIn neg) v u) (EP X pins σ Q) X.xe s := by
  obtain ⟨O, f1, f2, n, h1, h2, r⟩ := RS.two rs
  cases h1 with
  | v h1 =>
    obtain ⟨a, o, od, e1, g, oo, _, hk⟩ := dg_of h2 h1 hb
    cases e1
    obtain rfl : u = Value.ref a := ry
    have e : o.isSome = od.isSome := OptR.isSome oo
    have fin : Q (.bl (od.isSome ^^ neg)) H := hQ _ _ _ _ hk ⟨O, n, .cons (fp := []) (.v (.bl _)) r⟩
    cases neg with
    | false => exact d_in hu I g rx fun s' I' => ⟨.bl _, H, I', rfl, by rw [e]; rw [Bool.xor_false] at fin; exact fin⟩
    | true => exact d_notIn hu I g rx fun s' I' => ⟨.bl _, H, I', rfl, by rw [e]; rw [Bool.xor_true] at fin; exact fin⟩
theorem op_mem {neg : Bool} (hu : X.A.units + 1 < cLine) : OpR X (compareOp (cmpIn neg)) (r2B X.K (memB neg)) := by
  intro pins s σ H x y v u Q I rx ry h
  obtain ⟨L, ms, R, l, rs, hb, hQ⟩ := h
  have seq : ∀ {w : V} {z : Bool} {ws : List V}, RelV w v → flatV w = true → ws.all flatV = true → inV w ws = z → ∀ {a : Addr}, y = .ref a → (SqL X.K H a ws ∨ SqT X.K H a ws) → Q (.bl (z ^^ neg)) H → wpAny (model X.prog X.w) X.A (compareOp (cmpIn neg) v u) (EP X pins σ Q) X.xe s := fun {w z ws} rw_ f1 f2 e {a} ey sq q => by
    subst e
    cases neg with
    | false => exact op_in_seq pins s σ H w y v u Q I rw_ ry ⟨a, ws, ey, sq, f1, f2, by rw [Bool.xor_false] at q; exact q⟩
    | true => exact op_notIn_seq pins s σ H w y v u Q I rw_ ry ⟨a, ws, ey, sq, f1, f2, by rw [Bool.xor_true] at q; exact q⟩
  unfold memB at hb
  split at hb
  · exact op_dict hu I rx ry rs hb hQ
  · exact op_dict hu I rx ry rs hb hQ
  · exact op_dict hu I rx ry rs hb hQ
  · exact op_dict hu I rx ry rs hb hQ
  · rename_i i b _ _ _ _
    obtain ⟨xs, e0, hr⟩ := hb
    obtain ⟨O, f1, f2, n, h1, h2, r⟩ := RS.two rs
    have e1 := h1.int
    cases e1
    obtain ⟨a, vs, e2, s1, r1⟩ := h2.sq e0
    cases e2
    rw [ints_from r1] at s1
    exact seq rx rfl (flat_ints xs) (in_ints i xs) rfl s1 (hQ _ _ _ _ hr ⟨O, n, .cons (fp := []) (.v (.bl _)) r⟩)
  · rename_i i b _ _ _ _
    obtain ⟨xs, e0, hr⟩ := hb
    obtain ⟨O, f1, f2, n, h1, h2, r⟩ := RS.two rs
    have e1 := h1.str
    cases e1
    obtain ⟨a, vs, e2, s1, r1⟩ := h2.sq e0
    cases e2
    rw [strs_from r1] at s1
    exact seq rx rfl (flat_strs xs) (in_strs i xs) rfl s1 (hQ _ _ _ _ hr ⟨O, n, .cons (fp := []) (.v (.bl _)) r⟩)
  · exact hb.elim
theorem o_in (hu : X.A.units + 64 < cLine) : OpR X (compareOp .In) (r2B X.K (memB false)) := op_mem (neg := false) (by omega)
theorem o_nin (hu : X.A.units + 64 < cLine) : OpR X (compareOp .NotIn) (r2B X.K (memB true)) := op_mem (neg := true) (by omega)
/-! ### methods of dicts -/
def isDm (m : M) : Bool := (dTV m).isSome || (dKV m).isSome
def fMD (b : BM) (fo : FO) (fs : FOs) : FE := fun S R XR => fo S (fun a S1 => chk (isDm (arD a S1)) (fs S1 (fun as S2 => callB b (a :: as) S2 R) XR)) XR
theorem RS.tyD {σ : L2.St} {S : List M} {a : Ar} {v : V} {G : List Pr} (l : σ.length = S.length) (ok : ArOk σ a v) (rs : RS K H ((some v, arM a) :: (G ++ σ.zip S))) (h : isDm (arD a S) = true) : tyV K "dict" v H := by
  have go : ∀ {L : List Pr} {m : M}, RS K H ((some v, m) :: L) → isDm m = true → tyV K "dict" v H := fun {L m} rs h => by
    obtain ⟨O, f1, n, hm, r⟩ := RS.one rs
    cases hm with
    | mt h0 e r => exact .inr (.inr (.inl ⟨rfl, .inr ⟨_, h0⟩⟩))
    | mk h0 e r => exact .inr (.inr (.inl ⟨rfl, .inl ⟨_, h0⟩⟩))
    | v hv =>
      cases hv with
      | dT _ h0 e r => exact .inr (.inr (.inl ⟨rfl, .inr ⟨_, h0⟩⟩))
      | dK _ h0 e r => exact .inr (.inr (.inl ⟨rfl, .inl ⟨_, h0⟩⟩))
      | _ => cases h
    | _ => cases h
  cases a with
  | m m => exact go rs h
  | f _ _ _ m => exact go rs h
  | n i =>
    unfold arD at h
    simp only at h
    cases e : S[i]? with
    | none => rw [e] at h; cases h
    | some m =>
      rw [e] at h
      obtain ⟨x, e1, r1⟩ := RS.take rs.drop l e
      have e2 : σ[i]? = some (some v) := ok
      rw [e2] at e1
      cases e1
      exact go r1 h
theorem m_dget1 (hu : X.A.units + 64 < cLine) : MtR X "dict.get" (fun x vs H Q => rB X.K dget1B (x :: vs) H Q) := by
  intro pins s σ H x vs v us Q I rx rv h
  obtain ⟨L, ms, R, l, rs, hb, hQ⟩ := h
  unfold dget1B at hb
  split at hb
  · rename_i d kd
    obtain ⟨y, rfl⟩ := one_of (show vs.length = 1 by simpa using l)
    obtain ⟨O, f1, f2, n, h1, h2, r⟩ := RS.two rs
    cases h2 with
    | v h2 =>
      obtain ⟨a, o, od, e1, g, oo, _, hk⟩ := dg_of h1 h2 hb
      cases e1
      obtain rfl : v = Value.ref a := rx
      obtain ⟨u, rfl, ry⟩ := vals1 rv
      refine d_get1 (by omega) I g ry fun w' s' I' rw' => ?_
      cases od with
      | none =>
        cases o with
        | none => exact ⟨.non, H, I', rw', hQ _ _ _ _ hk ⟨O, n, .cons (fp := []) (.v .non) r⟩⟩
        | some z => exact oo.elim
      | some e =>
        cases o with
        | none => exact oo.elim
        | some z => exact ⟨z, H, I', rw', hQ _ _ _ _ hk ⟨O, n, .cons (fp := []) (.v oo) r⟩⟩
  · exact hb.elim
def dget2B : BM := fun ms R => match ms with
  | [d, .v kd, .v e] => dgP d kd fun o => match o with
    | some e' => R (.v e') [d, .v kd, .v e]
    | none => R (.v e) [d, .v kd, .v e]
  | _ => False
theorem m_dget2 (hu : X.A.units + 64 < cLine) : MtR X "dict.get" (fun x vs H Q => rB X.K dget2B (x :: vs) H Q) := by
  intro pins s σ H x vs v us Q I rx rv h
  obtain ⟨L, ms, R, l, rs, hb, hQ⟩ := h
  unfold dget2B at hb
  split at hb
  · rename_i d kd e0
    obtain ⟨y, z0, rfl⟩ := two_of (show vs.length = 2 by simpa using l)
    obtain ⟨O, f1, f2, n, h1, h2, r⟩ := RS.two rs
    have hz : RD X.K H O z0 e0 := by
      obtain ⟨_, q1⟩ := r.tl
      obtain ⟨_, q2⟩ := q1.tl
      obtain ⟨z', e3, h3⟩ := q2.hd
      cases e3
      exact h3
    cases h2 with
    | v h2 =>
      obtain ⟨a, o, od, e1, g, oo, _, hk⟩ := dg_of h1 h2 hb
      cases e1
      obtain rfl : v = Value.ref a := rx
      obtain ⟨u1, u2, rfl, ry, rz⟩ := vals2 rv
      refine d_get2 (by omega) I g ry rz fun w' s' I' rw' => ?_
      cases od with
      | none =>
        cases o with
        | none => exact ⟨z0, H, I', rw', hQ _ _ _ _ hk ⟨O, n, .cons (fp := []) (.v hz) r⟩⟩
        | some z => exact oo.elim
      | some e =>
        cases o with
        | none => exact oo.elim
        | some z => exact ⟨z, H, I', rw', hQ _ _ _ _ hk ⟨O, n, .cons (fp := []) (.v oo) r⟩⟩
  · exact hb.elim
variable {W : WX}
theorem de_mD {id : String} {name : Str} {b : BM} {o e : Expr} {es : List Expr} {fo : FO} {fs : FOs} {apos cpos : Pos} (slot : Slot "dict" name id) (hty : typeOf (.builtin id) = pure (.type "method_descriptor")) (hm : MtR X id (fun x vs H Q => rB X.K b (x :: vs) H Q)) (ho : DO X W o fo) (ha : DOs X W (e :: es) fs)
    (hbase : attributeBase o name X.env (eval o X.env) = eval o X.env := by rfl)
    (hfew : ((backTo cpos (starEach (e :: es) X.env)).all (fun x => !x.1) && (backToKw cpos (keywordEach [] X.env)).all (fun x => x.1.isSome)
      && decide ((e :: es).length + ([] : List Keyword).length + (if ([] : List Keyword).isEmpty then 0 else 1) < 30)) = true := by rfl)
    (hline : (apos.endLine == cpos.line) = true := by rfl) (hs : starEach (e :: es) X.env = (false, eval e X.env) :: starEach es X.env := by rfl) (hplain : (backTo cpos (starEach es X.env)).any (·.1) = false := by rfl) : DE X W (.Call (.Attribute o name apos) (e :: es) [] cpos) (fMD b fo fs) :=
  ⟨pe_le (pe_bm PySem.F.plainAttrs_dict slot hty hm ho.pe ha.pa hbase hfew hline hs hplain) fun σ H Q h => by
    obtain ⟨G, S, R, XR, l, rs, hF, hQ, hX⟩ := h
    refine ⟨G, S, _, XR, l, rs, hF, fun a S1 v H1 l1 h1 ok1 rs1 => ⟨RS.tyD l1 ok1 rs1 h1.ok.1, ?_⟩, hX⟩
    refine ⟨(some v, arM a) :: G, S1, _, XR, l1, rs1, h1.ok.2, fun as S2 vs H2 l2 h2 ok2 rs2 => ?_, fun c fs S' d H' l' hx xo => hX c fs S' d H' l' hx xo.drop⟩
    exact rB_of (as := a :: as) (vs := v :: vs) l2 ⟨ok1, ok2⟩ (RS.perm (perm_mid _ _ _) rs2) h2 hQ⟩
end
end DM

/-! is, is not of bools. -/
namespace DM
open PySem PySem.Spec PyProof.Rows
open L2
section
variable [Tabs] {X : Cx}
def isTB (neg : Bool) : BM := fun ms R => match ms with
  | [.v (.bl a), .v (.bl b)] => R (.v (.bl (decide (a = b) ^^ neg))) ms
  | _ => False
theorem o_isT : OpR X (compareOp .Is) (r2B X.K (isTB false)) := by
  intro pins s σ H x y v u Q I rx ry h
  obtain ⟨L, ms, R, l, rs, hb, hQ⟩ := h
  unfold isTB at hb
  split at hb
  · obtain ⟨O, f1, f2, n, h1, h2, r⟩ := RS.two rs
    cases h1 with
    | v h1 =>
      cases h1
      cases h2 with
      | v h2 =>
        cases h2
        refine op_is_bl pins s σ H _ _ v u Q I rx ry ⟨_, _, rfl, rfl, ?_⟩
        rw [Bool.xor_false] at hb
        exact hQ _ _ _ H hb (rs.bl _)
  · exact hb.elim
theorem o_notT : OpR X (compareOp .IsNot) (r2B X.K (isTB true)) := by
  intro pins s σ H x y v u Q I rx ry h
  obtain ⟨L, ms, R, l, rs, hb, hQ⟩ := h
  unfold isTB at hb
  split at hb
  · obtain ⟨O, f1, f2, n, h1, h2, r⟩ := RS.two rs
    cases h1 with
    | v h1 =>
      cases h1
      cases h2 with
      | v h2 =>
        cases h2
        refine op_isnot_bl pins s σ H _ _ v u Q I rx ry ⟨_, _, rfl, rfl, ?_⟩
        rw [Bool.xor_true] at hb
        exact hQ _ _ _ H hb (rs.bl _)
  · exact hb.elim
end
end DM

/-! f() of a def without arguments. -/
namespace DM
open PySem PySem.Spec PyProof.Rows
open L2
section
variable [Tabs] {X : Cx} {W : WX}
theorem pe_callS0 {CX : CXT} {k : Nat} {f : Addr} {fd : FuncData} {ps : List Str} {sp : Sp} {x : Str} {p pos : Pos} {E : L2.St → XK} (F : FnOk X.prog X.w X.K X.mg X.base CX k f fd ps sp) (hr : Room k X.A) (hg : Gl X x) (hm : X.mg x = some (.ref f)) (hk : PySem.W.keepIn X.K (.ref f) = true) (hb : Binds X.K fd ps []) (hx : ∀ σ, PassesAt CX X σ (E σ))
    (hdb : (x == ("__debug__" : Str)) = false := by decide) : PE X (.Call (.Name x p) [] [] pos) (tCallS sp E tNil) := by
  refine ⟨fun pins s σ H Q I h => ?_⟩
  refine wpAny_Call_Name_kw (ld_glob I hg hm ?_ hdb)
  exact PySem.W.callWith_K0 I.kIn hk (run_fnS (us := []) F hr hb (hx σ) I .nil h)
theorem de_call0 {k : Nat} {f : Addr} {fd : FuncData} {ps : List Str} {m : FM} {x : Str} {p pos : Pos} (F : FnOk X.prog X.w X.K X.mg X.base (L2.CX X.prog X.w) k f fd ps (spOf X.K 0 m)) (tk : Takes X W) (hr : Room k X.A) (hg : Gl X x) (hm : X.mg x = some (.ref f))
    (hk : PySem.W.keepIn X.K (.ref f) = true) (hb : Binds X.K fd ps []) (hdb : (x == ("__debug__" : Str)) = false := by decide) : DE X W (.Call (.Name x p) [] [] pos) (fCall m 0 osNil) :=
  ⟨pe_le (pe_callS0 F hr hg hm hk hb (fun σ => passAt tk σ) hdb) fun σ H Q h => by
    obtain ⟨G, S, R, XR, l, rs, hF, hQ, hX⟩ := h
    have hF : chk true (callF m [] S R XR) := hF
    have hF := hF.ok
    exact spOf_of (W := W) (as := []) (vs := []) l trivial rs hF.2 hQ hX⟩
end
end DM

/-! A field's own object lent; sums, the greatest; lists made longer; texts joined. -/
namespace DM
open PySem PySem.Spec PyProof.Rows
open L2
variable [Tabs]
/-- for all addresses -/
structure AllA (P : Addr → Prop) : Prop where
  go : ∀ l, P l
theorem RM.refOf {K : PySem.W.Frag} {H : Hp} {O : List Addr} {v : V} {m : M} {fp : List Addr} (h : RM K H O (some v) m fp) (n1 : m ≠ .gone) (n2 : ∀ d, m ≠ .v d) : ∃ l, v = .ref l := by
  cases h with
  | gone => exact absurd rfl n1
  | v h => exact absurd rfl (n2 _)
  | ml h r => exact ⟨_, rfl⟩
  | mk h e r => exact ⟨_, rfl⟩
  | mt h e r => exact ⟨_, rfl⟩
  | mo h e l r => exact ⟨_, rfl⟩
  | mkm h e l r => exact ⟨_, rfl⟩
/-- o.f, o in slot i: what the field holds is lent -/
def oF (C : Addr) (f : Str) (i : Nat) : FO := fun S R _ => getK S i (fun m => match m with
  | .mo C' ns xs => C' = C ∧ fAtK f ns xs (fun y => match y with
    | .v d => R (.m (.v d)) S
    | .gone => False
    | y => AllA fun l => fSetK f (.v (.ptr l)) ns xs fun xs' => setK S i (.mo C' ns xs') fun S' => R (.f i f l y) S') False
  | .v (.obj C' ns ds) => C' = C ∧ luD f ns ds fun d => R (.m (.v d)) S
  | _ => False) False
section
variable {X : Cx} {W : WX}
theorem do_f {i : Nat} {x : Str} {C : Addr} {f : Str} {pos pos2 : Pos} (c : Cls X.K C) (n : NoAttr X.K C f) (hN : X.N[i]? = some x := by rfl) (hv : Vis X.env.scope x := by first | exact Or.inl rfl | exact Or.inr (Or.inl rfl) | exact Or.inr (Or.inr rfl)) (hd : (x == ("__debug__" : Str)) = false := by decide)
    (hcd : (x == ("__classdict__" : Str)) = false := by decide) (hb : attributeBase (.Name x pos) f X.env (eval (.Name x pos) X.env) = eval (.Name x pos) X.env := by rfl) : DO X W (.Attribute (.Name x pos) f pos2) (oF C f i) :=
  ⟨pe_le (pe_fld (pe_var hN hv hd hcd) hb) fun σ H Q h => by
    obtain ⟨G, S, R, XR, l, rs, hF, hQ, hX⟩ := h
    unfold oF at hF
    cases e : S[i]? with
    | none => rw [getK_none e] at hF; exact hF.elim
    | some m =>
      rw [getK_some e] at hF
      cases m with
      | mo C' ns xs =>
        obtain ⟨rfl, hF⟩ := hF
        rw [fAtK_eq] at hF
        obtain ⟨x, e1, r⟩ := RS.take rs l e
        cases e2 : fAt f ns xs with
        | none => rw [e2] at hF; exact hF.elim
        | some y =>
          rw [e2] at hF
          obtain ⟨a, dx, fs, v, ex, hH, hl, ⟨_, _, hm⟩, p1, p2⟩ := RS.pinF r e2
          subst ex
          have own : y ≠ .gone → (∀ d, y ≠ .v d) → (AllA fun l => fSetK f (.v (.ptr l)) ns xs fun xs' => setK S i (.mo C' ns xs') fun S' => R (.f i f l y) S') → tFld X.K (tVar i) f σ H Q := fun n1 n2 hF => by
            obtain ⟨p, rfl⟩ := hm.refOf n1 n2
            have hF := hF.go p
            rw [fSetK_eq, setK_eq] at hF
            have r2 := p2 p rfl
            have r3 : RS X.K H ((some (.ref a), .mo C' ns (fSet f (.v (.ptr p)) ns xs)) :: (((some (.ref p), y) :: G) ++ σ.zip (S.set i .gone))) := r2.swap
            have r4 := RS.back r3 (by rw [List.length_set]; exact l) e1
            rw [set_set'] at r4
            exact ⟨_, e1, a, C', dx, fs, .ref p, rfl, hH, c, n, hl, hQ _ _ _ H (by rw [List.length_set]; exact l) hF rfl r4⟩
          cases y with
          | v d =>
            have r2 := p1 d rfl
            have r3 : RS X.K H ((some (.ref a), .mo C' ns xs) :: (((some v, .v d) :: G) ++ σ.zip (S.set i .gone))) := r2.swap
            have r4 := RS.back r3 (by rw [List.length_set]; exact l) e1
            rw [set_set', set_get e] at r4
            exact ⟨_, e1, a, C', dx, fs, v, rfl, hH, c, n, hl, hQ (.m (.v d)) S v H l hF trivial r4⟩
          | gone => exact hF.elim
          | ml ds => exact own (fun z => nomatch z) (fun _ z => nomatch z) hF
          | mk ks ds => exact own (fun z => nomatch z) (fun _ z => nomatch z) hF
          | mt ks ds => exact own (fun z => nomatch z) (fun _ z => nomatch z) hF
          | mo C ns ms => exact own (fun z => nomatch z) (fun _ z => nomatch z) hF
          | mkm ks ms => exact own (fun z => nomatch z) (fun _ z => nomatch z) hF
      | v d =>
        cases d with
        | obj C' ns ds =>
          obtain ⟨rfl, hF⟩ := hF
          obtain ⟨v, e1, r⟩ := RS.copy rs l e
          obtain ⟨O, f1, nd, h1, rr⟩ := RS.one r
          cases h1 with
          | v h1 =>
            cases h1 with
            | obj no hH ek rd =>
              obtain ⟨w, d, e2, r1, k⟩ := luD_get hF ek rd
              exact ⟨_, e1, _, _, _, _, w, rfl, hH, c, n, e2, hQ (.m (.v d)) S w H l k trivial (RS.drop (RS.swap ⟨O, nd, .cons (fp := []) (.v r1) rr⟩))⟩
        | _ => exact hF.elim
      | _ => exact hF.elim⟩
end
/-! ### what is read of lists -/
def intsV : List D → Option (List Int)
  | [] => some []
  | .int i :: ds => match intsV ds with
    | some is => some (i :: is)
    | none => none
  | _ :: _ => none
theorem intsV_map : ∀ ns : List Int, intsV (ns.map D.int) = some ns
  | [] => rfl
  | n :: ns => by
    rw [List.map_cons]
    unfold intsV
    rw [intsV_map ns]
theorem intsV_of : ∀ {ds : List D} {ns : List Int}, intsV ds = some ns → ds = ns.map D.int
  | [], ns, h => by
    cases h
    rfl
  | d :: ds, ns, h => by
    cases d with
    | int i =>
      unfold intsV at h
      cases e : intsV ds with
      | none => rw [e] at h; cases h
      | some is =>
        rw [e] at h
        cases h
        rw [List.map_cons, intsV_of e]
    | _ => cases h
section
variable {X : Cx}
/-- sum(xs) -/
def sumB : BM := fun ms R => match ms with
  | [a] => ∃ ns : List Int, lsV a = some (ns.map D.int) ∧ R (.v (.int ns.sum)) ms
  | _ => False
theorem c_sum (hc : X.calm = true) : CallR X (.builtin "sum") (rB X.K sumB) := by
  intro pins s σ H xs us Q I rx h
  obtain ⟨L, ms, R, l, rs, hb, hQ⟩ := h
  unfold sumB at hb
  split at hb
  · obtain ⟨ns, e0, hr⟩ := hb
    obtain ⟨x, rfl⟩ := one_of l
    obtain ⟨O, f1, n, h1, r⟩ := RS.one rs
    obtain ⟨a, vs, e1, s1, r1⟩ := h1.ls e0
    cases e1
    rw [ints_from r1] at s1
    exact cr_sum hc pins s σ H _ us Q I rx ⟨a, ns, rfl, s1, hQ _ _ _ H hr (rs.int _)⟩
  · exact hb.elim
/-- max, min of a list of ints or of two ints -/
def maxlB : BM := fun ms R => match ms with
  | [a] => ∃ ns : List Int, lsV a = some (ns.map D.int) ∧ 0 < ns.length ∧ ∀ m, m ∈ ns → (∀ y ∈ ns, y ≤ m) → R (.v (.int m)) ms
  | [.v (.int i), .v (.int j)] => R (.v (.int (if j > i then j else i))) ms
  | _ => False
def minlB : BM := fun ms R => match ms with
  | [a] => ∃ ns : List Int, lsV a = some (ns.map D.int) ∧ 0 < ns.length ∧ ∀ m, m ∈ ns → (∀ y ∈ ns, m ≤ y) → R (.v (.int m)) ms
  | [.v (.int i), .v (.int j)] => R (.v (.int (if j < i then j else i))) ms
  | _ => False
theorem c_maxl (hc : X.calm = true) : CallR X (.builtin "max") (rB X.K maxlB) := by
  intro pins s σ H xs us Q I rx h
  obtain ⟨L, ms, R, l, rs, hb, hQ⟩ := h
  unfold maxlB at hb
  split at hb
  · obtain ⟨ns, e0, h0, hr⟩ := hb
    obtain ⟨x, rfl⟩ := one_of l
    obtain ⟨O, f1, n, h1, r⟩ := RS.one rs
    obtain ⟨a, vs, e1, s1, r1⟩ := h1.ls e0
    cases e1
    rw [ints_from r1] at s1
    exact cr_max hc pins s σ H _ us Q I rx ⟨a, ns, rfl, s1, h0, fun m h2 h3 => hQ _ _ _ H (hr m h2 h3) (rs.int _)⟩
  · obtain ⟨x, y, rfl⟩ := two_of l
    obtain ⟨O, f1, f2, n, h1, h2, r⟩ := RS.two rs
    have e1 := h1.int
    have e2 := h2.int
    cases e1
    cases e2
    exact call_max2 hc pins s σ H _ us Q I rx ⟨_, _, rfl, hQ _ _ _ H hb (rs.int _)⟩
  · exact hb.elim
theorem c_minl (hc : X.calm = true) : CallR X (.builtin "min") (rB X.K minlB) := by
  intro pins s σ H xs us Q I rx h
  obtain ⟨L, ms, R, l, rs, hb, hQ⟩ := h
  unfold minlB at hb
  split at hb
  · obtain ⟨ns, e0, h0, hr⟩ := hb
    obtain ⟨x, rfl⟩ := one_of l
    obtain ⟨O, f1, n, h1, r⟩ := RS.one rs
    obtain ⟨a, vs, e1, s1, r1⟩ := h1.ls e0
    cases e1
    rw [ints_from r1] at s1
    exact cr_min hc pins s σ H _ us Q I rx ⟨a, ns, rfl, s1, h0, fun m h2 h3 => hQ _ _ _ H (hr m h2 h3) (rs.int _)⟩
  · obtain ⟨x, y, rfl⟩ := two_of l
    obtain ⟨O, f1, f2, n, h1, h2, r⟩ := RS.two rs
    have e1 := h1.int
    have e2 := h2.int
    cases e1
    cases e2
    exact call_min2 hc pins s σ H _ us Q I rx ⟨_, _, rfl, hQ _ _ _ H hb (rs.int _)⟩
  · exact hb.elim
end
/-- xs.extend(ys), ys a list or a tuple of any standing -/
theorem ext_any {l b : Addr} {its : Array Value} {n : Nat} {jts : Array Value} {m : Nat} {c : String} {dct : Option Addr} {sl : Array (Option Value)} (hc : c = "list" ∨ c = "tuple") (hs0 : ¬ (!its.isEmpty && Builtin.List.listTooLong (its.size + jts.size)) = true) (hs1 : its.size ≤ sizeLine) (hs2 : its.size + jts.size ≤ sizeLine + 1) :
    Meets (Builtin.«list.extend» ⟨[.ref l, .ref b], []⟩) fun _ R s => s.heap.get? l = some { cls := .type "list", dict := none, data := .seq its n, slots := #[] } ∧ s.heap.get? b = some { cls := .type c, dict := dct, data := .seq jts m, slots := sl } ∧ R (.ok (.ret .none)) { s with heap := s.heap.update l (Obj.mapSeq fun x => x ++ jts), toks := s.toks } :=
  .of_wp fun prog w A R s h => by
    obtain ⟨hl, hb, h⟩ := h
    obtain ⟨hp, g, d, tk, os⟩ := s
    have g1 := AutoSeq1.sub_list_list
    have g2 := AutoSeq1.sub_tuple_list
    have g3 := AutoSeq1.sub_list_tuple
    have g4 := AutoSeq1.sub_tuple_tuple
    have hz : (its ++ jts).size ≤ sizeLine + 1 := by
      rw [Array.size_append]
      exact hs2
    rcases hc with rfl | rfl
    · wp_walk using (wpAny_updateSeq hl rfl (hz := hs1) (_hz' := hz)), AutoSeq1.wpAny_loadPart' hl, AutoSeq1.wpAny_loadPart' hb
      exact ⟨_, rfl, h⟩
    · wp_walk using (wpAny_updateSeq hl rfl (hz := hs1) (_hz' := hz)), AutoSeq1.wpAny_loadPart' hl, AutoSeq1.wpAny_loadPart' hb
      exact ⟨_, rfl, h⟩
section
variable {X : Cx}
def extB : BM := fun ms R => match ms with
  | [.ml ds, e] => ∃ es, sqV e = some es ∧ ds.length + es.length ≤ sizeLine ∧ R (.v .non) [.ml (ds ++ es), e]
  | _ => False
theorem m_extend : MtR X "list.extend" (fun x vs H Q => rB X.K extB (x :: vs) H Q) := by
  intro pins s σ H x xs v us Q I rx rv h
  obtain ⟨L, ms, R, l, rs, hb, hQ⟩ := h
  unfold extB at hb
  split at hb
  · rename_i ds e
    obtain ⟨es, e0, hz, hr⟩ := hb
    obtain ⟨y, rfl⟩ := one_of (Nat.succ.inj l)
    obtain ⟨a, ws, e1, hH, hl, O, n, r1, r2, st, put⟩ := RS.ml2 rs
    cases e1
    obtain ⟨_, q⟩ := r2.tl
    cases q with
    | cons hm q' =>
      obtain ⟨b, zs, e2, sq, r3⟩ := hm.sq e0
      cases e2
      cases rx
      obtain ⟨u, rfl, ru⟩ := rv.one
      cases ru
      obtain ⟨z, its, k, rw1, hl2, g1⟩ := I.lstM hH
      have fin : ∀ {c : String} {dct : Option Addr} {sl : Array (Option Value)} {jts : List Value} {m : Nat}, (c = "list" ∨ c = "tuple") → s.heap.get? b = some { cls := .type c, dict := dct, data := .seq jts.toArray m, slots := sl } → Vals zs jts →
          wpAny (model X.prog X.w) X.A (call (.builtin "list.extend") [.ref a, .ref b]) (EP X pins σ Q) X.xe s := fun {c dct sl jts m} hc g2 rj => by
        have lj := rj.length
        have hsz : its.toArray.size + jts.toArray.size ≤ sizeLine := by
          rw [List.size_toArray, List.size_toArray, ← hl2, ← lj, hl, r3.length]
          exact hz
        have nl : ¬ (!its.toArray.isEmpty && Builtin.List.listTooLong (its.toArray.size + jts.toArray.size)) = true := by
          rw [notLongL hsz, Bool.and_false]
          decide
        refine call_meets F.slot_list_extend ⟨_, g1, rfl⟩ F.entry_list_extend (F.args_list_extend_2 _ _) (ext_any hc nl (by omega) (by omega)) ⟨g1, g2, ?_⟩
        refine ⟨.non, _, I.lset (its' := its ++ jts) hH g1 (by simp) (rw1.append rj) ?_, rfl, hQ _ _ _ _ hr (RS.val ⟨O, n, put _ _ (r1.append r3)⟩ fun _ => .non)⟩
        rw [List.length_append, hl, r3.length]
        exact hz
      rcases sq with sq | sq
      · obtain ⟨jts, rj, ⟨⟨c, dct, dt, sl⟩, m, g2, gc, gd, gt⟩, _⟩ := I.list sq
        dsimp only at gc gt
        subst gc gt
        exact fin (.inl rfl) g2 rj
      · obtain ⟨jts, rj, ⟨⟨c, dct, dt, sl⟩, g2, gc, m, gt⟩, _⟩ := I.tuple sq
        dsimp only at gc gt
        subst gc gt
        exact fin (.inr rfl) g2 rj
  · exact hb.elim
end
end DM

/-! enumerate, zip. -/
namespace DM
open PySem PySem.Spec PyProof.Rows
open L2
/-! ### enumerate of what has an iterator of its own -/
set_option maxHeartbeats 1000000 in
theorem enum_new1 {v : Value} {o : Obj} {P : Heap → Prop} (B : Begins v o P) :
    Meets (Builtin.«enumerate.__new__» ⟨[.type "enumerate", v], []⟩) fun _ R s => P s.heap ∧
      R (.ok (.ret (.ref (s.heap.push o).objs.size))) { s with heap := (s.heap.push o).push { cls := .type "enumerate", data := .fields #[.none, .bool false, .ref s.heap.objs.size, rawInt 0, .none, .none] } } :=
  .of_wp fun prog w A R s h => by
    obtain ⟨h1, h⟩ := h
    obtain ⟨hp, g, d, tk, os⟩ := s
    have e1 := sub_enumerate
    have it1 : ∀ {A' : Around} {F Q : Value → Shared → Prop}, Q (.ref hp.objs.size) ⟨hp.push o, g, d, tk, os⟩ → wpAny (model prog w) A' (pyIter v) Q F ⟨hp, g, d, tk, os⟩ := fun q => B.iter prog w _ _ ⟨hp, g, d, tk, os⟩ _ h1 q
    wp_walk using it1
    refine wpAny_stack_any fun fr => wpAny_pure ?_
    split
    · rename_i c _ _ _ _ _
      cases (c == Value.type "enumerate") <;> (wp_walk using it1) <;> exact ⟨_, rfl, h⟩
    · wp_walk using it1
      exact ⟨_, rfl, h⟩
section
variable {prog : Program} {w : World} {A : Around} {E : Value → Shared → Prop} {s : Shared}
theorem enum_call1 {v : Value} {o : Obj} {P : Heap → Prop} {Q : Value → Shared → Prop} (B : Begins v o P) (h1 : P s.heap)
    (h : ∀ h', IsEnum h' (s.heap.objs.size + 1) s.heap.objs.size 0 .none → h'.get? s.heap.objs.size = some o → (∀ b u, s.heap.get? b = some u → h'.get? b = some u) → Q (.ref (s.heap.objs.size + 1)) { s with heap := h' }) :
    wpAny (model prog w) A (call (.type "enumerate") [v]) Q E s := by
  refine callType_new F.called_enumerate (by decide) (F.typeCall_enumerate_1 _) (F.newCall_enumerate_1 _) (fun x => F.args_object_init_2 x _) F.entry_enumerate_new (enum_new1 B) ⟨h1, ?_⟩
  have hz : (s.heap.push o).objs.size = s.heap.objs.size + 1 := Heap.size_push ..
  show _ ∧ _
  rw [hz]
  have q := Heap.get?_push_size (s.heap.push o) (o := { cls := .type "enumerate", data := .fields #[.none, .bool false, .ref s.heap.objs.size, rawInt 0, .none, .none] }) rfl
  rw [hz] at q
  exact ⟨⟨_, q, rfl⟩, h _ q (Heap.get?_push_of_some _ (Heap.get?_push_size _ B.free)) fun b u x => Heap.get?_push_of_some _ (Heap.get?_push_of_some _ x)⟩
end
/-- the tuple at a, each item in a new pair -/
def IteT (K : PySem.W.Frag) (a : Addr) : It :=
  ⟨fun i H => ∃ (xs : List V) (x : V), SqT K H a xs ∧ xs[i]? = some x, fun i H v H' => ∃ T x, v = .ref T ∧ H T = none ∧ H' = upd H T (.tup [.int (i : Nat), x]) ∧ ∀ xs, SqT K H a xs → xs[i]? = some x, fun i H => ∃ xs : List V, SqT K H a xs ∧ xs.length ≤ i⟩
theorem turn_enumT {P : Program} {w : World} {K : PySem.W.Frag} {elts : List Expr} {kk : Nat} {tpos : Pos} (a e it : Addr) (hai : a ≠ it) (hae : a ≠ e) :
    Turn P w K (.Tuple elts kk tpos) (IteT K a) [e, it] e (fun i h => (∃ old, IsEnum h e it ((i : Nat) : Int) old) ∧ h.IsTupleIter it a i ∧ e ≠ it) where
  mem := by simp
  obj := fun i h st b hb => by
    obtain ⟨⟨old, he⟩, ⟨o, ho, hc, hd⟩, _⟩ := st
    rcases List.mem_cons.mp hb with z | z
    · rw [z]; exact ⟨_, he, fun v q => nomatch q⟩
    · rw [List.mem_singleton.mp z]; exact ⟨o, ho, fun v q => by rw [hd] at q; cases q⟩
  keep := fun i h h' st k => by
    obtain ⟨⟨old, he⟩, hi, hne⟩ := st
    exact ⟨⟨old, k e (by simp) _ he⟩, hi.at fun o q => k it (by simp) o q, hne⟩
  item := by
    intro X hP hw hK hc i pins s σ H E I hf st hg
    subst hP hw hK
    obtain ⟨⟨old, he⟩, hit, hne⟩ := st
    obtain ⟨xs, x, hq, hx⟩ := hg
    obtain ⟨its, rv, p, hz⟩ := I.tuple hq
    obtain ⟨u, hu, ru⟩ := rv.get hx
    have hel : e < s.heap.objs.size := Heap.lt_size he
    have hil : it < s.heap.objs.size := by obtain ⟨_, q, _⟩ := hit; exact Heap.lt_size q
    have hT0 : s.heap.IsTuple a its.toArray := p
    have hlt : i < its.toArray.size := by
      rw [List.size_toArray]
      exact (List.getElem?_eq_some_iff.mp hu).1
    refine wpAny_pyNext_enum_itemD (Draws.tuple (A := X.A.in1) (show X.A.in1.handled = none from I.ok.hd hc) it a hai its.toArray) he ⟨hit, hT0⟩ hlt hne (by simp [hne, Ne.symm hae]) fun y h' tk hy ho hst hT hsz hk => ?_
    have ey : y = u := by
      rw [show its.toArray[i]? = its[i]? by simp, hu] at hy
      exact (Option.some.inj hy).symm
    subst ey
    refine ⟨_, rfl, wpAny_letOwnedTupleGo_enum (s := { s with heap := h', toks := tk + 1 }) ho fun h'' he' sb => ?_⟩
    have hT2 : h''.get? s.heap.objs.size = some { cls := .type "tuple", data := .seq #[.int i tk, y] } := (sb.2 _ (Nat.ne_of_gt hel)).trans hT
    have new : ObjOk X.prog X.w (upd H s.heap.objs.size (.tup [.int (i : Nat), x])) h'' s.heap.objs.size (.tup [.int (i : Nat), x]) :=
      ⟨by show 2 ≤ sizeLine; decide, [.int i tk, y], .cons ⟨_, rfl⟩ (.cons ru .nil), ⟨_, hT2, rfl, _, rfl⟩⟩
    have I1 : Inv X pins σ (upd H s.heap.objs.size (.tup [.int (i : Nat), x])) { s with heap := h'', toks := tk + 1 } :=
      I.turnedNew (ch := [e, it]) (fun b ob hb q => (sb.2 b (fun z => hb (by simp [z]))).trans (hk b ob (fun z => hb (by simp [z])) (fun z => hb (by simp [z])) q)) hf (Nat.le_refl _) new
    refine ⟨.ref s.heap.objs.size, _, I1, rfl, ⟨_, x, rfl, I.hok.fresh (Nat.le_refl _), rfl, fun ys hy => by rw [I.tuple_inj hy hq]; exact hx⟩, ⟨⟨y, ?_⟩, hst.1.at fun o q => (sb.2 it (Ne.symm hne)).trans q, hne⟩, fun b hb => ?_⟩
    · have e1 : ((i + 1 : Nat) : Int) = (i : Int) + 1 := by omega
      rw [e1]
      exact he'
    · have hb' : b < s.heap.objs.size := by
        rcases List.mem_cons.mp hb with z | z
        · rw [z]; exact hel
        · rw [List.mem_singleton.mp z]; exact hil
      rw [upd_ne (Nat.ne_of_lt hb')]
      exact (hf b hb).1
  done := by
    intro X hP hw hK hc i pins s σ H E I hf st hg
    subst hP hw hK
    obtain ⟨⟨old, he⟩, hit, hne⟩ := st
    obtain ⟨xs, hq, hx⟩ := hg
    obtain ⟨its, rv, p, hz⟩ := I.tuple hq
    obtain ⟨f0, f1, f2, f3, f4, f5⟩ := hf it (by simp)
    have hl := rv.length
    have hT0 : s.heap.IsTuple a its.toArray := p
    have hno : its.toArray[i]? = none := by
      rw [show its.toArray[i]? = its[i]? by simp]
      exact List.getElem?_eq_none (by omega)
    have Dr : Draws X.prog X.w X.A.in1 it [it, a] i (fun _ _ => False) (fun j h => j = i ∧ h.IsTupleIter it a i ∧ h.IsTuple a its.toArray) := {
      live := fun _ _ st => let ⟨o, ho, _⟩ := st.2.1; ⟨o, ho⟩
      frame := fun _ _ _ st hk => ⟨st.1, st.2.1.at fun o e => hk it (by simp) o e, st.2.2.at fun o e => hk a (by simp) o e⟩
      item := fun j s Q E hj st _ => absurd st.1 (Nat.ne_of_lt hj)
      done := fun s Q E st hE => wpAny_nextOf_tuple_end (show X.A.in1.handled = none from I.ok.hd hc) st.2.1 st.2.2 hno hE }
    exact wpAny_pyNext_enum_endD Dr he ⟨rfl, hit, hT0⟩ fun h' eb => ⟨rfl, I.turned (t' := s.toks) (fun b o hb q => eb b o hb q) f0 f1 f3 f4 f5⟩
  self := fun A i s Q E st h => by
    obtain ⟨⟨_, he⟩, _⟩ := st
    exact wpAny_pyIter_enum he h
/-- over a list or a tuple -/
def iEnumA (K : PySem.W.Frag) (ta : TA) : TI := fun σ H R => ta σ H fun vs H1 => ∃ a xs, vs = [.ref a] ∧ ((SqL K H1 a xs ∧ R (Ite K a) H1) ∨ (SqT K H1 a xs ∧ R (IteT K a) H1))
theorem pi_enumA {X : Cx} {e : Expr} {ta : TA} {p pos tpos : Pos} {elts : List Expr} {kk : Nat} (hg : Gl X "enumerate") (hm : X.mg "enumerate" = none) (ha : PA X [e] ta) (hs : starEach [e] X.env = [(false, eval e X.env)] := by rfl) :
    PI X (.Tuple elts kk tpos) (.Call (.Name "enumerate" p) [e] [] pos) (iEnumA X.K ta) := by
  refine ⟨fun pins s σ H R I h => ?_⟩
  refine Call_ (ld_blt I hg hm boot_enumerate (PyProof.Rows.callWith_type1 (thn (ha.run pos pins s σ H _ I h) fun us s1 ⟨vs, H1, I1, r1, q1⟩ => ?_) hs rfl))
  obtain ⟨a, xs, ex, q⟩ := q1
  subst ex
  cases r1 with
  | cons r rr =>
    cases rr
    cases r
    have fp : ∀ {h' : Heap}, ∀ b ∈ [s1.heap.objs.size + 1, s1.heap.objs.size], FpOk X pins H1 b := fun {h'} b hb => by
      have hle : s1.heap.objs.size ≤ b := by
        rcases List.mem_cons.mp hb with z | z
        · rw [z]; exact Nat.le_add_right _ _
        · rw [List.mem_singleton.mp z]; exact Nat.le_refl _
      exact I1.fpOk hle (I1.hok.fresh hle)
    rcases q with ⟨hq, q⟩ | ⟨hq, q⟩
    · obtain ⟨its, rv, p', hz⟩ := I1.list hq
      refine enum_call1 (begins_list a its.toArray) p'.isList fun h' he hit hk => wpAny_pyIter_enum he ?_
      have I2 : Inv X pins σ H1 { s1 with heap := h' } := I1.kept (t' := s1.toks) hk
      exact ⟨_, _, _, _, H1, rfl, I2, turn_enum a (s1.heap.objs.size + 1) s1.heap.objs.size, ⟨⟨.none, he⟩, ⟨_, hit, rfl, rfl⟩, Nat.succ_ne_self _⟩, fp (h' := h'), q⟩
    · obtain ⟨its, rv, p', hz⟩ := I1.tuple hq
      have hl : a < s1.heap.objs.size := by
        obtain ⟨_, e, _⟩ := p'
        exact Heap.lt_size e
      refine enum_call1 (begins_tuple a its.toArray) (show s1.heap.IsTuple a its.toArray from p') fun h' he hit hk => wpAny_pyIter_enum he ?_
      have I2 : Inv X pins σ H1 { s1 with heap := h' } := I1.kept (t' := s1.toks) hk
      exact ⟨_, _, _, _, H1, rfl, I2, turn_enumT a (s1.heap.objs.size + 1) s1.heap.objs.size (Nat.ne_of_lt hl) (Nat.ne_of_lt (Nat.lt_succ_of_lt hl)), ⟨⟨.none, he⟩, ⟨_, hit, rfl, rfl⟩, Nat.succ_ne_self _⟩, fp (h' := h'), q⟩
section
variable [Tabs] {X : Cx} {W : WX}
def numD (ds : List D) : List D := (ds.zipIdx).map fun p => .tup [.int (p.2 : Nat), p.1]
theorem numD_get {ds : List D} {i : Nat} {d : D} (h : (numD ds)[i]? = some d) : ∃ x, ds[i]? = some x ∧ d = .tup [.int (i : Nat), x] := by
  unfold numD at h
  rw [List.getElem?_map, List.getElem?_zipIdx] at h
  cases e : ds[i]? with
  | none => rw [e] at h; cases h
  | some x =>
    rw [e] at h
    have h := Option.some.inj h
    refine ⟨x, rfl, h.symm.trans ?_⟩
    simp
theorem numD_len {ds : List D} : (numD ds).length = ds.length := by simp [numD]
theorem serve_enumL {K : PySem.W.Frag} {a : Addr} {m : M} {ds : List D} (e : lsV m = some ds) : Serve K (Ite K a) [(some (.ref a), m)] (numD ds) := by
  intro i H L rs
  obtain ⟨O, f1, n, h1, r⟩ := RS.one rs
  obtain ⟨b, vs, e1, s1, r1⟩ := h1.ls e
  cases e1
  refine ⟨fun d hd => ?_, fun hi => ⟨vs, s1, by rw [r1.length]; rw [numD_len] at hi; exact hi⟩⟩
  obtain ⟨d, hd2, rfl⟩ := numD_get hd
  obtain ⟨v, hv, rv⟩ := r1.get hd2
  refine ⟨⟨vs, v, s1, hv⟩, fun x H' hy => ?_⟩
  obtain ⟨T, y, rfl, hT, rfl, f⟩ := hy
  have ey := f vs s1
  rw [hv] at ey
  cases ey
  exact RS.newTup ⟨O, n, .cons (.int _) (.cons rv .nil), r⟩ hT
theorem serve_enumT {K : PySem.W.Frag} {a : Addr} {m : M} {ds : List D} (e : tpV m = some ds) : Serve K (IteT K a) [(some (.ref a), m)] (numD ds) := by
  intro i H L rs
  obtain ⟨O, f1, n, h1, r⟩ := RS.one rs
  obtain ⟨b, vs, e1, s1, r1⟩ := h1.tp e
  cases e1
  refine ⟨fun d hd => ?_, fun hi => ⟨vs, s1, by rw [r1.length]; rw [numD_len] at hi; exact hi⟩⟩
  obtain ⟨d, hd2, rfl⟩ := numD_get hd
  obtain ⟨v, hv, rv⟩ := r1.get hd2
  refine ⟨⟨vs, v, s1, hv⟩, fun x H' hy => ?_⟩
  obtain ⟨T, y, rfl, hT, rfl, f⟩ := hy
  have ey := f vs s1
  rw [hv] at ey
  cases ey
  exact RS.newTup ⟨O, n, .cons (.int _) (.cons rv .nil), r⟩ hT
/-- enumerate(xs) -/
def iEn (F : FA) : FI := fun S R XR => F S (fun ms S' => match ms with
  | [m] => ∃ ds, sqV m = some ds ∧ R (numD ds) S'
  | _ => False) XR
theorem sqV_or {m : M} {ds : List D} (h : sqV m = some ds) : lsV m = some ds ∨ tpV m = some ds := by
  rcases sqV_cases h with rfl | rfl | rfl
  · exact .inr rfl
  · exact .inl rfl
  · exact .inl rfl
theorem di_enum {e : Expr} {F : FA} {p pos tpos : Pos} {elts : List Expr} {kk : Nat} (hg : Gl X "enumerate") (hm : X.mg "enumerate" = none) (ha : DA X W [e] F) (hs : starEach [e] X.env = [(false, eval e X.env)] := by rfl) :
    DI X W (.Tuple elts kk tpos) (.Call (.Name "enumerate" p) [e] [] pos) (iEn F) := ⟨pi_le (pi_enumA hg hm ha.pa hs) fun σ H Q h => by
  obtain ⟨G, S, R, XR, l, rs, hF, hQ, hX⟩ := h
  refine ⟨G, S, _, XR, l, rs, hF, fun ms S1 vs H1 l1 lv h1 rs1 => ?_, hX⟩
  split at h1
  · rename_i m
    obtain ⟨ds, e0, hr⟩ := h1
    obtain ⟨v, rfl⟩ := one_of lv
    obtain ⟨O, f1, n, hm, r⟩ := RS.one rs1
    rcases sqV_or e0 with e1 | e1
    · obtain ⟨a, xs, ex, sq, _⟩ := hm.ls e1
      cases ex
      exact ⟨a, xs, rfl, .inl ⟨sq, hQ _ S1 _ [(some (.ref a), m)] H1 l1 hr (serve_enumL e1) rs1⟩⟩
    · obtain ⟨a, xs, ex, sq, _⟩ := hm.tp e1
      cases ex
      exact ⟨a, xs, rfl, .inr ⟨sq, hQ _ S1 _ [(some (.ref a), m)] H1 l1 hr (serve_enumT e1) rs1⟩⟩
  · exact h1.elim⟩
/-! ### zip of two lists, of two tuples -/
def zipD (ds es : List D) : List D := (ds.zip es).map fun p => .tup [p.1, p.2]
theorem zipD_get {ds es : List D} {i : Nat} {d : D} (h : (zipD ds es)[i]? = some d) : ∃ x y, ds[i]? = some x ∧ es[i]? = some y ∧ d = .tup [x, y] := by
  unfold zipD at h
  rw [List.getElem?_map] at h
  cases e : (ds.zip es)[i]? with
  | none => rw [e] at h; cases h
  | some p =>
    rw [e] at h
    cases h
    obtain ⟨x, y⟩ := p
    obtain ⟨h1, h2⟩ := List.getElem?_zip_eq_some.mp e
    exact ⟨x, y, h1, h2, rfl⟩
theorem serve_zipL {K : PySem.W.Frag} {a b : Addr} {m m' : M} {ds es : List D} (e : lsV m = some ds) (e' : lsV m' = some es) : Serve K (Itz K a b) [(some (.ref a), m), (some (.ref b), m')] (zipD ds es) := by
  intro i H L rs
  obtain ⟨O, f1, f2, n, h1, h2, r⟩ := RS.two rs
  obtain ⟨_, vs, e1, s1, r1⟩ := h1.ls e
  cases e1
  obtain ⟨_, ws, e2, s2, r2⟩ := h2.ls e'
  cases e2
  refine ⟨fun d hd => ?_, fun hi => ⟨vs, ws, s1, s2, ?_⟩⟩
  · obtain ⟨x, y, hx, hy, rfl⟩ := zipD_get hd
    obtain ⟨v, hv, rv⟩ := r1.get hx
    obtain ⟨u, hu, ru⟩ := r2.get hy
    refine ⟨⟨vs, ws, v, u, s1, s2, hv, hu⟩, fun z H' hz => ?_⟩
    obtain ⟨T, p, q, rfl, hT, rfl, f, g⟩ := hz
    have ep := f vs s1
    rw [hv] at ep
    cases ep
    have eq := g ws s2
    rw [hu] at eq
    cases eq
    exact RS.newTup ⟨O, n, .cons rv (.cons ru .nil), r⟩ hT
  · rw [r1.length, r2.length]
    simp only [zipD, List.length_map, List.length_zip] at hi
    omega
theorem serve_zipT {K : PySem.W.Frag} {a b : Addr} {m m' : M} {ds es : List D} (e : tpV m = some ds) (e' : tpV m' = some es) : Serve K (RZ.ItzT K a b) [(some (.ref a), m), (some (.ref b), m')] (zipD ds es) := by
  intro i H L rs
  obtain ⟨O, f1, f2, n, h1, h2, r⟩ := RS.two rs
  obtain ⟨_, vs, e1, s1, r1⟩ := h1.tp e
  cases e1
  obtain ⟨_, ws, e2, s2, r2⟩ := h2.tp e'
  cases e2
  refine ⟨fun d hd => ?_, fun hi => ⟨vs, ws, s1, s2, ?_⟩⟩
  · obtain ⟨x, y, hx, hy, rfl⟩ := zipD_get hd
    obtain ⟨v, hv, rv⟩ := r1.get hx
    obtain ⟨u, hu, ru⟩ := r2.get hy
    refine ⟨⟨vs, ws, v, u, s1, s2, hv, hu⟩, fun z H' hz => ?_⟩
    obtain ⟨T, p, q, rfl, hT, rfl, f, g⟩ := hz
    have ep := f vs s1
    rw [hv] at ep
    cases ep
    have eq := g ws s2
    rw [hu] at eq
    cases eq
    exact RS.newTup ⟨O, n, .cons rv (.cons ru .nil), r⟩ hT
  · rw [r1.length, r2.length]
    simp only [zipD, List.length_map, List.length_zip] at hi
    omega
def iZp (F : FA) : FI := fun S R XR => F S (fun ms S' => match ms with
  | [m, m'] => ∃ ds es, ((lsV m = some ds ∧ lsV m' = some es) ∨ (tpV m = some ds ∧ tpV m' = some es)) ∧ R (zipD ds es) S'
  | _ => False) XR
theorem di_zip {e e2 : Expr} {F : FA} {p pos tpos : Pos} {elts : List Expr} {kk : Nat} (hg : Gl X "zip") (hm : X.mg "zip" = none) (ha : DA X W [e, e2] F) (hs : starEach [e, e2] X.env = (false, eval e X.env) :: starEach [e2] X.env := by rfl) (hpl : (backTo pos (starEach [e2] X.env)).any (·.1) = false := by rfl) :
    DI X W (.Tuple elts kk tpos) (.Call (.Name "zip" p) [e, e2] [] pos) (iZp F) := ⟨pi_le (RZ.pi_zipA hg hm ha.pa hs hpl) fun σ H Q h => by
  obtain ⟨G, S, R, XR, l, rs, hF, hQ, hX⟩ := h
  refine ⟨G, S, _, XR, l, rs, hF, fun ms S1 vs H1 l1 lv h1 rs1 => ?_, hX⟩
  split at h1
  · rename_i m m'
    obtain ⟨ds, es, e0, hr⟩ := h1
    obtain ⟨v, w, rfl⟩ := two_of lv
    obtain ⟨O, f1, f2, n, hm1, hm2, r⟩ := RS.two rs1
    rcases e0 with ⟨e1, e2⟩ | ⟨e1, e2⟩
    · obtain ⟨a, xs, ex, sq, _⟩ := hm1.ls e1
      cases ex
      obtain ⟨b, ys, ey, sq2, _⟩ := hm2.ls e2
      cases ey
      exact ⟨a, b, xs, ys, rfl, .inl ⟨sq, sq2, hQ _ S1 _ [(some (.ref a), m), (some (.ref b), m')] H1 l1 hr (serve_zipL e1 e2) rs1⟩⟩
    · obtain ⟨a, xs, ex, sq, _⟩ := hm1.tp e1
      cases ex
      obtain ⟨b, ys, ey, sq2, _⟩ := hm2.tp e2
      cases ey
      exact ⟨a, b, xs, ys, rfl, .inr ⟨sq, sq2, hQ _ S1 _ [(some (.ref a), m), (some (.ref b), m')] H1 l1 hr (serve_zipT e1 e2) rs1⟩⟩
  · exact h1.elim⟩
end
end DM

/-! A dict of lists of its own; fields frozen; methods of texts. -/
namespace DM
open PySem PySem.Spec PyProof.Rows
open L2
variable [Tabs]
section
variable {K : PySem.W.Frag} {H : Hp} {O : List Addr}
theorem RL.at_ : ∀ {L : List Pr} {j : Nat} {x : Option V} {m : M} {fp : List Addr}, L[j]? = some (x, m) → RL K H O L fp →
    ∃ fm fr, RM K H O x m fm ∧ fp.Perm (fm ++ fr) ∧ ∀ m' fm', RM K H O x m' fm' → ∃ fp', fp'.Perm (fm' ++ fr) ∧ RL K H O (L.set j (x, m')) fp'
  | [], _, _, _, _, e, _ => by simp at e
  | (y, n) :: L, 0, x, m, _, e, r => by
    simp only [List.getElem?_cons_zero, Option.some.injEq, Prod.mk.injEq] at e
    obtain ⟨rfl, rfl⟩ := e
    cases r with
    | @cons _ _ _ f1 f2 h r => exact ⟨f1, f2, h, .refl _, fun m' fm' h' => ⟨fm' ++ f2, .refl _, .cons h' r⟩⟩
  | (y, n) :: L, j + 1, x, m, _, e, r => by
    rw [List.getElem?_cons_succ] at e
    cases r with
    | @cons _ _ _ f1 f2 h r =>
      obtain ⟨fm, fr, a, b, c⟩ := RL.at_ e r
      refine ⟨fm, f1 ++ fr, a, ?_, fun m' fm' h' => ?_⟩
      · refine (b.append_left f1).trans ?_
        rw [← List.append_assoc, ← List.append_assoc]
        exact List.perm_append_comm.append_right _
      · obtain ⟨fp', p', r'⟩ := c m' fm' h'
        refine ⟨f1 ++ fp', ?_, .cons h r'⟩
        refine (p'.append_left f1).trans ?_
        rw [← List.append_assoc, ← List.append_assoc]
        exact List.perm_append_comm.append_right _
theorem RS.pinD {x : Option V} {ks : List DKey} {ms : List M} {j : Nat} {ds : List D} {L : List Pr} (h : RS K H ((x, .mkm ks ms) :: L)) (e : ms[j]? = some (.ml ds)) :
    ∃ p kvs l k, x = some (.ref p) ∧ H p = some (.dK kvs) ∧ kvs.map Prod.fst = ks ∧ kvs[j]? = some (k, .ref l) ∧ RS K H ((some (.ref l), .ml ds) :: (x, .mkm ks (ms.set j (.v (.ptr l)))) :: L) := by
  obtain ⟨fp0, f2, n, r, q⟩ := h.opn
  cases r with
  | @mkm p kvs _ _ fp hH ek le rl =>
    have hj : j < kvs.length := by rw [le]; exact (List.getElem?_eq_some_iff.mp e).1
    have ez : ((kvs.map fun z => some z.2).zip ms)[j]? = some (some kvs[j].2, .ml ds) := by
      refine List.getElem?_zip_eq_some.mpr ⟨?_, e⟩
      rw [List.getElem?_map, List.getElem?_eq_getElem hj]
      rfl
    obtain ⟨fm, fr, h2, h3, h4⟩ := RL.at_ ez rl
    obtain ⟨l, el⟩ := h2.refOf (fun z => nomatch z) (fun _ z => nomatch z)
    refine ⟨p, kvs, l, kvs[j].1, rfl, hH, ek, by rw [List.getElem?_eq_getElem hj, ← el], ?_⟩
    rw [el] at h2 h4
    obtain ⟨fp', p', r'⟩ := h4 (.v (.ptr l)) [] (.v (.ptr l))
    have pa : ((p :: fp) ++ f2).Perm (fm ++ ((p :: fp') ++ f2)) := by
      have p1 : (p :: fp).Perm (fm ++ (p :: fp')) := ((h3.trans (p'.symm.append_left fm)).cons p).trans List.perm_middle.symm
      rw [← List.append_assoc]
      exact p1.append_right f2
    have ezs : ((kvs.map fun z => some z.2).zip ms).set j (some (.ref l), .v (.ptr l)) = (kvs.map fun z => some z.2).zip (ms.set j (.v (.ptr l))) := by
      rw [← zip_set, set_get (A := kvs.map fun z => some z.2) (by rw [List.getElem?_map, List.getElem?_eq_getElem hj, ← el]; rfl)]
    rw [ezs] at r'
    refine ⟨_, pa.nodup n, ?_⟩
    have r2 : RL K H ((p :: fp) ++ f2) ((some (.ref l), .ml ds) :: (some (.ref p), .mkm ks (ms.set j (.v (.ptr l)))) :: L) (fm ++ ((p :: fp') ++ f2)) := .cons h2 (.cons (.mkm hH ek (by rw [List.length_set]; exact le) r') q)
    exact r2.fewer fun b hb => pa.symm.mem_iff.mp hb
theorem RS.unpinD {x : Option V} {l : Addr} {ks : List DKey} {ms : List M} {m : M} {j : Nat} {L : List Pr} (h : RS K H ((some (.ref l), m) :: (x, .mkm ks ms) :: L)) (e : ms[j]? = some (.v (.ptr l))) : RS K H ((x, .mkm ks (ms.set j m)) :: L) := by
  obtain ⟨O, n, r⟩ := h
  cases r with
  | @cons _ _ _ fm frest hm r =>
    cases r with
    | @cons _ _ _ fo fL ho q =>
      cases ho with
      | @mkm p kvs _ _ fp hH ek le rl =>
        have hj : j < kvs.length := by rw [le]; exact (List.getElem?_eq_some_iff.mp e).1
        have ez : ((kvs.map fun z => some z.2).zip ms)[j]? = some (some kvs[j].2, .v (.ptr l)) := by
          refine List.getElem?_zip_eq_some.mpr ⟨?_, e⟩
          rw [List.getElem?_map, List.getElem?_eq_getElem hj]
          rfl
        obtain ⟨fv, fr, h2, h3, h4⟩ := RL.at_ ez rl
        generalize ev : kvs[j].2 = v at h2 h4
        cases h2 with
        | v h2 =>
          cases h2
          obtain ⟨fp', p', r'⟩ := h4 m fm hm
          have pa : (fm ++ ((p :: fp) ++ fL)).Perm ((p :: fp') ++ fL) := by
            rw [← List.append_assoc]
            refine List.Perm.append_right fL ?_
            refine List.perm_middle.trans (List.Perm.cons p ?_)
            exact (h3.append_left fm).trans p'.symm
          have ezs : ((kvs.map fun z => some z.2).zip ms).set j (some (.ref l), m) = (kvs.map fun z => some z.2).zip (ms.set j m) := by
            rw [← zip_set, set_get (A := kvs.map fun z => some z.2) (by rw [List.getElem?_map, List.getElem?_eq_getElem hj, ← ev]; rfl)]
          rw [ezs] at r'
          refine ⟨_, pa.nodup n, ?_⟩
          have r2 : RL K H (fm ++ ((p :: fp) ++ fL)) ((some (.ref p), .mkm ks (ms.set j m)) :: L) ((p :: fp') ++ fL) := .cons (.mkm hH ek (by rw [List.length_set]; exact le) r') q
          exact r2.fewer fun b hb => pa.symm.mem_iff.mp hb
theorem RL.snoc {L : List Pr} {x : Option V} {m : M} {f1 f2 : List Addr} (r : RL K H O L f1) (h : RM K H O x m f2) : RL K H O (L ++ [(x, m)]) (f1 ++ f2) := by
  have q : RL K H O [(x, m)] f2 := by
    have := RL.cons h (.nil r.tabs)
    rwa [List.append_nil] at this
  exact r.append q
/-- a new key -/
theorem RS.newD {x v : V} {ks : List DKey} {ms : List M} {m : M} {k : DKey} {L : List Pr} (h : RS K H ((some v, m) :: (some x, .mkm ks ms) :: L)) :
    ∃ p kvs, x = .ref p ∧ H p = some (.dK kvs) ∧ kvs.map Prod.fst = ks ∧ kvs.length = ms.length ∧ RS K (upd H p (.dK (kvs ++ [(k, v)]))) ((some (.ref p), .mkm (ks ++ [k]) (ms ++ [m])) :: L) := by
  obtain ⟨O, n, r⟩ := h
  cases r with
  | @cons _ _ _ fm frest hm r =>
    cases r with
    | @cons _ _ _ fo fL ho q =>
      cases ho with
      | @mkm p kvs _ _ fp hH ek le rl =>
        refine ⟨p, kvs, rfl, hH, ek, le, ?_⟩
        have pa : (fm ++ ((p :: fp) ++ fL)).Perm ((p :: (fp ++ fm)) ++ fL) := by
          rw [← List.append_assoc]
          refine List.Perm.append_right fL ?_
          exact List.perm_middle.trans (List.Perm.cons p List.perm_append_comm)
        have n1 := pa.nodup n
        have d := List.nodup_append.mp n1
        have np : p ∉ fp ++ fm := (List.nodup_cons.mp d.1).1
        have st : ∀ O', (∀ b, b ∈ O' → b ∈ fm ++ ((p :: fp) ++ fL)) → Stp H (upd H p (.dK (kvs ++ [(k, v)]))) (fm ++ ((p :: fp) ++ fL)) O' := fun O' s => stp_put (by simp) s
        have s1 := st ((p :: (fp ++ fm)) ++ fL) fun b hb => pa.symm.mem_iff.mp hb
        have ez : ((kvs ++ [(k, v)]).map fun z => some z.2).zip (ms ++ [m]) = ((kvs.map fun z => some z.2).zip ms) ++ [(some v, m)] := by
          rw [List.map_append, List.zip_append (by rw [List.length_map]; exact le)]
          rfl
        have r1 := (rl.snoc hm).step s1 fun b hb o ho => by
          rw [upd_ne fun z => np (by rw [← z]; exact hb)]
          exact ho
        rw [← ez] at r1
        exact ⟨_, n1, .cons (.mkm upd_same (by rw [List.map_append, ek]; rfl) (by rw [List.length_append, List.length_append, le]; rfl) r1) (q.step s1 fun b hb o ho => by
          rw [upd_ne fun z => d.2.2 p (by simp) b hb z.symm]
          exact ho)⟩
/-- d at the end of the list at k -/
def sdK : List DKey → List (List D) → DKey → D → List DKey × List (List D)
  | k' :: ks, ds :: dss, k, d => if k' = k then (k' :: ks, (ds ++ [d]) :: dss) else (k' :: (sdK ks dss k d).1, ds :: (sdK ks dss k d).2)
  | _, _, k, d => ([k], [[d]])
theorem sdK_at {k : DKey} {d : D} : ∀ {kvs : List (DKey × V)} {dss : List (List D)}, kvs.length = dss.length →
    (valV kvs k = none ∧ sdK (kvs.map Prod.fst) dss k d = (kvs.map Prod.fst ++ [k], dss ++ [[d]])) ∨ (∃ j ds v k', kvs[j]? = some (k', v) ∧ valV kvs k = some v ∧ dss[j]? = some ds ∧ sdK (kvs.map Prod.fst) dss k d = (kvs.map Prod.fst, dss.set j (ds ++ [d])))
  | [], [], _ => .inl ⟨rfl, rfl⟩
  | [], _ :: _, l => nomatch l
  | _ :: _, [], l => nomatch l
  | (k', v) :: kvs, ds :: dss, l => by
    rw [List.map_cons]
    unfold sdK
    by_cases z : k' = k
    · rw [if_pos z]
      exact .inr ⟨0, ds, v, k', rfl, valV_pos (p := (k', v)) z, rfl, rfl⟩
    · rw [if_neg z]
      rcases sdK_at (k := k) (d := d) (Nat.succ.inj l) with ⟨a, b⟩ | ⟨j, es, u, k2, a, b, c, e⟩
      · exact .inl ⟨(valV_neg (p := (k', v)) z).trans a, by rw [b]; rfl⟩
      · exact .inr ⟨j + 1, es, u, k2, a, (valV_neg (p := (k', v)) z).trans b, c, by rw [e]; rfl⟩
end
section
variable {X : Cx} {W : WX}
def isMkm (m : M) : Prop := match m with
  | .mkm _ _ => True
  | _ => False
theorem isMkm.get {m : M} (h : isMkm m) : ∃ ks ms, m = .mkm ks ms := by
  cases m <;> first | exact ⟨_, _, rfl⟩ | exact h.elim
/-- o.setdefault(k, []).append(x), x a name -/
def sSda (fo : FO) (fk : FE) (i : Nat) : FS := fun E S => fo S (fun a S1 => getD' a S1 fun c0 => isMkm c0 ∧ fk S1 (fun mk S2 => asD mk fun dk => getD' a S2 fun c => match c with
  | .mkm ks ms => ∃ (k : DKey) (dss : List (List D)), keyK dk = some k ∧ ms = dss.map M.ml ∧ ks.length + 1 < sizeLine ∧ (∀ ds ∈ dss, ds.length < sizeLine) ∧ getK S2 i (fun m => match m with
    | .v d => takeK [a] S2 fun _ S3 => giveK [a] [.mkm (sdK ks dss k d).1 ((sdK ks dss k d).2.map M.ml)] S3 E.nx
    | _ => False) False
  | _ => False) E.ex) E.ex
theorem RS.isD {H : Hp} {σ : L2.St} {S : List M} {a : Ar} {v : V} {G : List Pr} {ks : List DKey} {ms : List M} (l : σ.length = S.length) (ok : ArOk σ a v) (rs : RS X.K H ((some v, arM a) :: (G ++ σ.zip S))) (h : arD a S = .mkm ks ms) : ∃ p, v = .ref p ∧ IsD H p := by
  obtain ⟨L, r⟩ := RS.opd l ok rs (by rw [h]; exact fun z => nomatch z)
  rw [h] at r
  obtain ⟨O, f1, n, hm, _⟩ := RS.one r
  cases hm with
  | mkm h0 e le rl => exact ⟨_, rfl, .inl ⟨_, .inl h0⟩⟩
theorem takeA1 (a : Ar) (S : List M) : (takeA [a] S).1 = [arD a S] := by
  cases a with
  | m m => rfl
  | f i f l m => rfl
  | n i =>
    unfold takeA
    show (match S[i]? with | some (.v d) => _ | some m => _ | none => _ : List M × List M).1 = [S[i]?.getD .gone]
    cases e : S[i]? with
    | none => rfl
    | some m => cases m <;> rfl
theorem ds_sda {mask : List Bool} {o ek : Expr} {fo : FO} {fk : FE} {i : Nat} {x : Str} {p1 p2 p3 p4 p5 p6 pos : Pos} (ho : DO X W o fo) (hk : DE X W ek fk) (hN : X.N[i]? = some x := by rfl) (hv : Vis X.env.scope x := by first | exact Or.inl rfl | exact Or.inr (Or.inl rfl) | exact Or.inr (Or.inr rfl)) (hd : (x == ("__debug__" : Str)) = false := by decide)
    (hcd : (x == ("__classdict__" : Str)) = false := by decide) (m : M2 X o "setdefault" p1 ek (.List [] p2) p3 := by exact ⟨rfl, rfl, rfl, rfl⟩) (hs : swapsWith (.Call (.Attribute (.Call (.Attribute o "setdefault" p1) [ek, .List [] p2] [] p3) "append" p4) [.Name x p5] [] p6) none pos.line X.env = pure false := by rfl) 
    (hbase : attributeBase (.Call (.Attribute o "setdefault" p1) [ek, .List [] p2] [] p3) "append" X.env (eval (.Call (.Attribute o "setdefault" p1) [ek, .List [] p2] [] p3) X.env) = eval (.Call (.Attribute o "setdefault" p1) [ek, .List [] p2] [] p3) X.env := by rfl)
    (hline : (p4.endLine == p6.line) = true := by rfl) :
    DS X W mask (.Expr (.Call (.Attribute (.Call (.Attribute o "setdefault" p1) [ek, .List [] p2] [] p3) "append" p4) [.Name x p5] [] p6) pos) (sSda fo fk i) :=
  ⟨ps_le (ps_expr (pe_bm PySem.F.plainAttrs_list PySem.F.slot_list_append PySem.F.type_list_append mt_append (pe_dsetd ho.pe hk.pe (pe_lst pa_nil) m) (pa_cons (pe_var hN hv hd hcd) pa_nil) hbase (by rfl) hline (by rfl) (by rfl)) hs) fun Dn σ H h => by
    obtain ⟨G, S, E, l, rs, hF, nx, rt, bk, ct, ex⟩ := h
    refine ⟨G, S, _, E.ex, l, rs, hF, fun a S1 v H1 l1 h1 ok1 rs1 => ?_, fun c fs S' d H' l' hx xo => ex c fs S' d σ H' (Ag.refl σ) l' hx xo⟩
    have h1 := getD'_eq h1
    obtain ⟨⟨ks0, ms0, e0⟩, h1⟩ := And.intro h1.1.get h1.2
    obtain ⟨p, rfl, hD⟩ := RS.isD l1 ok1 rs1 e0
    refine ⟨p, rfl, hD, ?_⟩
    refine ⟨(some (.ref p), arM a) :: G, S1, _, E.ex, l1, rs1, h1, fun mk S2 y H2 l2 h2 rs2 => ?_, fun c fs S' d H' l' hx xo => ex c fs S' d σ H' (Ag.refl σ) l' hx xo.drop⟩
    obtain ⟨dk, h2, rs2⟩ := RS.asD rs2 h2
    have h2 := getD'_eq h2
    split at h2
    · rename_i ks ms eD
      obtain ⟨k, dss, ek, rfl, hz1, hz2, h2⟩ := h2
      refine ⟨by decide, fun z hz => ?_⟩
      cases e2 : S2[i]? with
      | none => rw [getK_none e2] at h2; exact h2.elim
      | some mi =>
        rw [getK_some e2] at h2
        cases mi with
        | v d =>
          have h2 : takeK [a] S2 fun _ S3 => giveK [a] [.mkm (sdK ks dss k d).1 ((sdK ks dss k d).2.map M.ml)] S3 E.nx := h2
          rw [takeK_eq, giveK_eq] at h2
          have rs3 : RS X.K (upd H2 z (.lst [])) ((some (.ref z), .ml []) :: (some y, .v dk) :: (some (.ref p), arM a) :: (G ++ σ.zip S2)) := RS.newLst (let ⟨O, n, r⟩ := rs2; ⟨O, n, .nil, r⟩) hz
          generalize upd H2 z (.lst []) = H3 at rs3 ⊢
          have ey : y = kV k := by
            obtain ⟨O, f1, n, hm, _⟩ := RS.one (RS.swap rs3)
            cases hm with
            | v hm => exact key_of hm ek
          have rs3 : RS X.K H3 ((some (.ref z), .ml []) :: (some (.ref p), arM a) :: (G ++ σ.zip S2)) := (RS.swap rs3).drop
          obtain ⟨w, hw, rs4⟩ := RS.copy (G := (some (.ref z), .ml []) :: (some (.ref p), arM a) :: G) rs3 l2 e2
          have rs5 : RS X.K H3 ((([V.ref p].map some).zip ([a].map arM)) ++ (((some (.ref z), .ml []) :: (some w, .v d) :: G) ++ σ.zip S2)) := RS.perm ((List.Perm.cons _ (.swap _ _ _)).trans ((List.Perm.swap _ _ _).trans (List.Perm.cons _ (.swap _ _ _)))) rs4
          have rs6 := RS.takeA l2 (as := [a]) (vs := [.ref p]) ⟨ok1, trivial⟩ rs5
          rw [takeA1, eD] at rs6
          have l3 : σ.length = (takeA [a] S2).2.length := l2.trans (takeA_len [a] S2).2.symm
          generalize (takeA [a] S2).2 = S3 at rs6 h2 l3
          have rs6 : RS X.K H3 ((some (.ref p), .mkm ks (dss.map M.ml)) :: (some (.ref z), .ml []) :: (some w, .v d) :: (G ++ σ.zip S3)) := rs6
          have tail : ∀ {H4 : Hp} {ks4 : List DKey} {dss4 : List (List D)} {j : Nat} {ds : List D} {l4 : Addr}, ds.length < sizeLine → sdK ks dss k d = (ks4, dss4.set j (ds ++ [d])) → dss4[j]? = some ds → (∀ kvs, H4 p = some (.dK kvs) → ∃ k', kvs[j]? = some (k', .ref l4)) →
              RS X.K H4 ((some (.ref p), .mkm ks4 (dss4.map M.ml)) :: (some w, .v d) :: (G ++ σ.zip S3)) → tyV X.K "list" (.ref l4) H4 ∧ ∃ v, σ[i]? = some (some v) ∧ rAppend (.ref l4) [v] H4 fun _ H' => Dn.nx σ H' := fun {H4 ks4 dss4 j ds l4} hz esd hj hl r => by
            have ej : (dss4.map M.ml)[j]? = some (.ml ds) := by rw [List.getElem?_map, hj]; rfl
            obtain ⟨p', kvs, l5, k', e1, hH, _, hk, r2⟩ := RS.pinD r ej
            cases e1
            obtain ⟨k2, hk2⟩ := hl kvs hH
            rw [hk] at hk2
            cases hk2
            obtain ⟨a5, vs, e5, hv5, hl5, O, n, r5, r6, _, put⟩ := RS.ml2 r2
            cases e5
            refine ⟨.inl ⟨rfl, vs, .inl (.inl hv5)⟩, w, hw, _, vs, w, rfl, rfl, hv5, by rw [hl5]; exact hz, ?_⟩
            obtain ⟨_, q⟩ := r6.tl
            obtain ⟨_, q⟩ := q.tl
            obtain ⟨w', ew, hwd⟩ := q.hd
            cases ew
            have r7 : RS X.K _ _ := ⟨O, n, put _ _ (r5.append (.cons hwd .nil))⟩
            have r8 := RS.unpinD r7 (List.getElem?_set_self (List.getElem?_eq_some_iff.mp ej).1)
            rw [set_set', show (dss4.map M.ml).set j (.ml (ds ++ [d])) = (dss4.set j (ds ++ [d])).map M.ml from List.map_set.symm] at r8
            have r9 : RS X.K _ (([V.ref p].map some).zip [M.mkm ks4 ((dss4.set j (ds ++ [d])).map M.ml)] ++ (G ++ σ.zip S3)) := (RS.swap r8).drop
            have r10 := RS.giveA l3 (as := [a]) (vs := [.ref p]) ⟨ok1, trivial⟩ r9
            rw [esd] at h2
            exact nx _ σ _ (Ag.refl σ) (l3.trans (giveA_len _ _ _).symm) h2 r10
          have hkv : ∃ kvs, H3 p = some (.dK kvs) ∧ kvs.map Prod.fst = ks ∧ kvs.length = dss.length := by
            obtain ⟨O, f1, n, hm, _⟩ := RS.one rs6
            cases hm with
            | mkm h0 e le rl => exact ⟨_, h0, e, by rw [le, List.length_map]⟩
          obtain ⟨kvs, hH, ekk, elen⟩ := hkv
          have hsd := sdK_at (k := k) (d := d) elen
          rw [ekk] at hsd
          have elk : kvs.length = ks.length := by rw [← ekk, List.length_map]
          refine ⟨kvs, k, hH, ey, by omega, fun v hv => ?_, fun hn => ?_⟩
          · rcases hsd with ⟨a1, _⟩ | ⟨j, ds, u, k', b1, b2, b3, b4⟩
            · rw [a1] at hv; cases hv
            · rw [hv] at b2
              cases b2
              have ej : (dss.map M.ml)[j]? = some (.ml ds) := by rw [List.getElem?_map, b3]; rfl
              obtain ⟨p', kvs', l5, k2, e1, hH', _, hk, _⟩ := RS.pinD rs6 ej
              cases e1
              rw [hH] at hH'
              cases hH'
              rw [b1] at hk
              cases hk
              exact tail (hz2 ds (List.mem_of_getElem? b3)) b4 b3 (fun kv hkv => by rw [hH] at hkv; cases hkv; exact ⟨_, b1⟩) ((RS.perm (List.Perm.cons _ (.swap _ _ _)) rs6 |> fun q => RS.perm ((List.Perm.swap _ _ _)) (RS.perm (List.Perm.swap _ _ _) q)) |> fun q => (RS.perm (((List.Perm.cons _ (.swap _ _ _))).trans (.swap _ _ _)) q).drop)
          · rcases hsd with ⟨_, a2⟩ | ⟨j, ds, u, k', b1, b2, b3, b4⟩
            · obtain ⟨p', kvs', e1, hH', ek2, el2, r⟩ := RS.newD (k := k) (RS.swap rs6)
              cases e1
              rw [hH] at hH'
              cases hH'
              rw [putK_new _ hn]
              have em : dss.map M.ml ++ [M.ml []] = (dss ++ [[]]).map M.ml := by rw [List.map_append]; rfl
              rw [em] at r
              refine tail (ks4 := ks ++ [k]) (dss4 := dss ++ [[]]) (j := dss.length) (ds := []) (by decide) (by rw [a2]; simp) (by simp) (fun kv hkv => ?_) r
              rw [upd_same] at hkv
              cases hkv
              exact ⟨k, by rw [← elen]; simp⟩
            · rw [hn] at b2; cases b2
        | _ => exact h2.elim
    · exact h2.elim⟩
end
end DM

/-! Fields frozen; a new dict of lists; one of two readings; methods of texts. -/
namespace DM
open PySem PySem.Spec PyProof.Rows
open L2
variable [Tabs]
theorem RS.newM {K : PySem.W.Frag} {H : Hp} {L : List Pr} {p : Addr} (h : RS K H L) (hp : H p = none) : RS K (upd H p (.dK [])) ((some (.ref p), .mkm [] []) :: L) := by
  obtain ⟨O, n, r⟩ := h
  have np := r.notnew hp
  have r2 := r.newO (O' := p :: O) (o := .dK []) hp fun a z => (List.mem_cons.mp z).symm
  exact ⟨p :: O, List.nodup_cons.mpr ⟨np, n⟩, .cons (fp := [p]) (.mkm (fp := []) upd_same rfl rfl (.nil r2.tabs)) r2⟩
def fNewM : FE := fun S R _ => R (.mkm [] []) S
section
variable {X : Cx} {W : WX} {mask : List Bool}
theorem de_newM {pos : Pos} : DE X W (.Dict [] [] pos) fNewM := ⟨pe_le pe_dnewK fun σ H Q h => by
  obtain ⟨G, S, R, XR, l, rs, hF, hQ, hX⟩ := h
  exact fun p hp => hQ _ S _ _ l hF (RS.newM rs hp)⟩
/-- either reading -/
def fOr (F F' : FE) : FE := fun S R XR => F S R XR ∨ F' S R XR
theorem de_or2 {e : Expr} {F F' : FE} (h : DE X W e F) (h' : DE X W e F') : DE X W e (fOr F F') := ⟨⟨fun pins s σ H Q I q => by
  obtain ⟨G, S, R, XR, l, rs, hF, hQ, hX⟩ := q
  rcases hF with hF | hF
  · exact h.pe.run pins s σ H Q I ⟨G, S, R, XR, l, rs, hF, hQ, hX⟩
  · exact h'.pe.run pins s σ H Q I ⟨G, S, R, XR, l, rs, hF, hQ, hX⟩⟩⟩
/-- a new object that nobody changes -/
def fFz (F : FE) : FE := fun S R XR => F S (fun m S' => asD m fun d => R (.v d) S') XR
theorem de_fz {e : Expr} {F : FE} (h : DE X W e F) : DE X W e (fFz F) := ⟨pe_le h.pe fun σ H Q q => by
  obtain ⟨G, S, R, XR, l, rs, hF, hQ, hX⟩ := q
  refine ⟨G, S, _, XR, l, rs, hF, fun m S' v H' l' hm rs' => ?_, hX⟩
  obtain ⟨d, hr, rs2⟩ := RS.asD rs' hm
  exact hQ _ S' v H' l' hr rs2⟩
/-! ### a field's content frozen -/
def frzF (f : Str) (ns : List Str) (ms : List M) : List M := match fAt f ns ms with
  | some m => fSet f (.v (fz m)) ns ms
  | none => ms
theorem RS.freezeF {K : PySem.W.Frag} {H : Hp} {x : Option V} {C : Addr} {f : Str} {ns : List Str} {ms : List M} {m : M} {L : List Pr} (h : RS K H ((x, .mo C ns ms) :: L)) (e : fAt f ns ms = some m) (z : fzok m = true) : RS K H ((x, .mo C ns (fSet f (.v (fz m)) ns ms)) :: L) := by
  obtain ⟨a, dx, fs, v, rfl, hH, hl, ⟨_, _, hm⟩, p1, p2⟩ := RS.pinF h e
  by_cases hv : ∃ d, m = .v d
  · obtain ⟨d, rfl⟩ := hv
    have idem : ∀ (ns : List Str) (ms : List M), fAt f ns ms = some (.v d) → fSet f (.v d) ns ms = ms := by
      intro ns
      induction ns with
      | nil => intro ms e; cases ms <;> cases e
      | cons n ns ih =>
        intro ms e
        cases ms with
        | nil => rfl
        | cons m ms =>
          cases q : f == n with
          | true =>
            rw [fAt_t q] at e
            cases e
            rw [fSet_t q]
          | false =>
            rw [fAt_f q] at e
            rw [fSet_f q, ih ms e]
    show RS K H ((_, .mo C ns (fSet f (.v d) ns ms)) :: L)
    rw [idem ns ms e]
    exact h
  · obtain ⟨l, rfl⟩ := hm.refOf (fun q => by subst q; cases z) (fun d q => hv ⟨d, q⟩)
    have r2 := (p2 l rfl).freeze z
    have e2 : ∀ (ns : List Str) (ms : List M) (y : M), fAt f ns ms = some m → fAt f ns (fSet f y ns ms) = some y ∧ ∀ y', fSet f y' ns (fSet f y ns ms) = fSet f y' ns ms := by
      intro ns
      induction ns with
      | nil => intro ms y e; cases ms <;> cases e
      | cons n ns ih =>
        intro ms y e
        cases ms with
        | nil => cases e
        | cons m0 ms =>
          cases q : f == n with
          | true =>
            refine ⟨by rw [fSet_t q, fAt_t q], fun y' => by rw [fSet_t q, fSet_t q, fSet_t q]⟩
          | false =>
            rw [fAt_f q] at e
            obtain ⟨a1, a2⟩ := ih ms y e
            exact ⟨by rw [fSet_f q, fAt_f q]; exact a1, fun y' => by rw [fSet_f q, fSet_f q, fSet_f q, a2]⟩
    obtain ⟨a1, a2⟩ := e2 ns ms (.v (.ptr l)) e
    have r3 := RS.unpinF r2 a1
    rw [a2] at r3
    exact r3
def fzF (i : Nat) (f : Str) (S : List M) (k : List M → Prop) : Prop := getK S i (fun m => match m with
  | .mo C ns xs => fAtK f ns xs (fun y => chk (fzok y) (fSetK f (.v (fz y)) ns xs fun xs' => setK S i (.mo C ns xs') k)) False
  | _ => False) False
/-- b, then the field f of what slot i holds is frozen -/
def sFz (i : Nat) (f : Str) (b : FS) : FS := fun E S => b { E with nx := fun S' => fzF i f S' E.nx } S
theorem dss_fz {sts : List Stmt} {b : FS} {i : Nat} {f : Str} (h : DSs X W mask sts b) : DSs X W mask sts (sFz i f b) := ⟨pss_le h.ps fun Dn σ H q => by
  obtain ⟨G, S, E, l, rs, hF, nx, rt, bk, ct, ex⟩ := q
  refine ⟨G, S, _, l, rs, hF, fun S' σ' H' ag l' hn rs' => ?_, rt, bk, ct, ex⟩
  have hn : fzF i f S' E.nx := hn
  unfold fzF at hn
  cases e : S'[i]? with
  | none => rw [getK_none e] at hn; exact hn.elim
  | some m =>
    rw [getK_some e] at hn
    cases m with
    | mo C ns xs =>
      have hn : fAtK f ns xs (fun y => chk (fzok y) (fSetK f (.v (fz y)) ns xs fun xs' => setK S' i (.mo C ns xs') E.nx)) False := hn
      rw [fAtK_eq] at hn
      cases e2 : fAt f ns xs with
      | none => rw [e2] at hn; exact hn.elim
      | some y =>
        rw [e2] at hn
        have hn := chk.ok hn
        rw [fSetK_eq, setK_eq] at hn
        obtain ⟨x, e1, r⟩ := RS.take rs' l' e
        have r2 := r.freezeF e2 hn.1
        have r3 := RS.back r2 (by rw [List.length_set]; exact l') e1
        rw [set_set'] at r3
        exact nx _ σ' H' ag (by rw [List.length_set]; exact l') hn.2 r3
    | _ => exact hn.elim⟩
/-! ### methods of texts -/
def isS (m : M) : Bool := match m with
  | .v (.str _) => true
  | _ => false
def fMS (b : BM) (fo : FO) (fs : FOs) : FE := fun S R XR => fo S (fun a S1 => getD' a S1 fun c => chk (isS c) (fs S1 (fun as S2 => callB b (a :: as) S2 R) XR)) XR
theorem isS.get {m : M} (h : isS m = true) : ∃ x, m = .v (.str x) := by
  unfold isS at h
  split at h
  · exact ⟨_, rfl⟩
  · cases h
theorem de_mS {id : String} {name : Str} {b : BM} {o e : Expr} {fo : FO} {fs : FOs} {apos cpos : Pos} (slot : Slot "str" name id) (hty : typeOf (.builtin id) = pure (.type "method_descriptor")) (hm : MtR X id (fun x vs H Q => rB X.K b (x :: vs) H Q)) (ho : DO X W o fo) (ha : DOs X W [e] fs)
    (hs : starEach [e] X.env = [(false, eval e X.env)] := by rfl) (hbase : attributeBase o name X.env (eval o X.env) = eval o X.env := by rfl)
    (hfew : ((backTo cpos (starEach [e] X.env)).all (fun x => !x.1) && (backToKw cpos (keywordEach [] X.env)).all (fun x => x.1.isSome) && decide (([e] : List Expr).length + ([] : List Keyword).length + (if ([] : List Keyword).isEmpty then 0 else 1) < 30)) = true := by rfl)
    (hline : (apos.endLine == cpos.line) = true := by rfl) (hplain : (backTo cpos (starEach [] X.env)).any (·.1) = false := by rfl) : DE X W (.Call (.Attribute o name apos) [e] [] cpos) (fMS b fo fs) :=
  ⟨pe_le (pe_bm PySem.F.plainAttrs_str slot hty hm ho.pe ha.pa hbase hfew hline hs hplain) fun σ H Q h => by
    obtain ⟨G, S, R, XR, l, rs, hF, hQ, hX⟩ := h
    refine ⟨G, S, _, XR, l, rs, hF, fun a S1 v H1 l1 h1 ok1 rs1 => ⟨?_, ?_⟩, hX⟩
    · obtain ⟨x, ex⟩ := (chk.ok (getD'_eq h1)).1 |> isS.get
      obtain ⟨L, r⟩ := RS.opd l1 ok1 rs1 (by rw [ex]; exact fun z => nomatch z)
      rw [ex] at r
      obtain ⟨O, f1, n, hm, _⟩ := RS.one r
      have e1 := hm.str
      cases e1
      rfl
    · have h1 := (chk.ok (getD'_eq h1)).2
      refine ⟨(some v, arM a) :: G, S1, _, XR, l1, rs1, h1, fun as S2 vs H2 l2 h2 ok2 rs2 => ?_, fun c fs S' d H' l' hx xo => hX c fs S' d H' l' hx xo.drop⟩
      exact rB_of (as := a :: as) (vs := v :: vs) l2 ⟨ok1, ok2⟩ (RS.perm (perm_mid _ _ _) rs2) h2 hQ⟩
/-- sep.join(xs) -/
def joinB : BM := fun ms R => match ms with
  | [.v (.str a), e] => ∃ ys : List Str, sqV e = some (ys.map D.str) ∧ (ys.map (·.length)).sum + ys.length * a.length ≤ 16777216 ∧ R (.v (.str (Txt.join a ys))) ms
  | _ => False
theorem m_join : MtR X "str.join" (fun x vs H Q => rB X.K joinB (x :: vs) H Q) := mtR_of mt_join fun x vs H Q h => by
  obtain ⟨L, ms, R, l, rs, hb, hQ⟩ := h
  unfold joinB at hb
  split at hb
  · rename_i a e
    obtain ⟨ys, e0, hz, hr⟩ := hb
    obtain ⟨y, rfl⟩ := one_of (Nat.succ.inj l)
    obtain ⟨O, f1, f2, n, h1, h2, r⟩ := RS.two rs
    have e1 := h1.str
    cases e1
    obtain ⟨p, vs, e2, sq, r2⟩ := h2.sq e0
    cases e2
    rw [strs_from r2] at sq
    exact ⟨a, p, ys, rfl, rfl, sq, hz, hQ _ _ _ H hr (rs.str _)⟩
  · exact hb.elim
def findB : BM := fun ms R => match ms with
  | [.v (.str a), .v (.str b)] => R (.v (.int (Txt.find a b))) ms
  | _ => False
theorem m_find : MtR X "str.find" (fun x vs H Q => rB X.K findB (x :: vs) H Q) := mtR_of mt_find fun x vs H Q h => by
  obtain ⟨L, ms, R, l, rs, hb, hQ⟩ := h
  unfold findB at hb
  split at hb
  · rename_i a b
    obtain ⟨y, rfl⟩ := one_of (Nat.succ.inj l)
    obtain ⟨O, f1, f2, n, h1, h2, r⟩ := RS.two rs
    have e1 := h1.str
    have e2 := h2.str
    cases e1
    cases e2
    exact ⟨a, b, rfl, rfl, hQ _ _ _ H hb (rs.int _)⟩
  · exact hb.elim
end
end DM

/-! The greatest of a list of ints, or a default. -/
namespace DM
open PySem PySem.Spec PyProof.Rows
open L2
variable [Tabs]
section
variable {X : Cx} {W : WX}
def rMaxDf (K : PySem.W.Frag) : List V → List V → Hp → VK → Prop := fun vs zs H Q => ∃ (a : Addr) (ns : List Int) (d : Int), vs = [V.ref a] ∧ zs = [.int d] ∧ SqL K H a (ns.map V.int) ∧ (ns = [] → Q (.int d) H) ∧ ∀ m, m ∈ ns → (∀ y ∈ ns, y ≤ m) → Q (.int m) H
theorem cr_maxDf (hc : X.calm = true) : CallRK X (.builtin "max") [Str.ofString "default"] (rMaxDf X.K) := by
  intro pins s σ H vs zs us ws Q I r rz h
  obtain ⟨a, ns, d, rfl, rfl, hs, q0, q1⟩ := h
  obtain rfl := Vals.ref1 r
  obtain ⟨w1, rfl, e1⟩ := vals1 rz
  obtain ⟨tw, rfl⟩ : ∃ tw, w1 = Value.int d tw := e1
  obtain ⟨its, rv, hl, _⟩ := I.list hs
  have hi := rv.ints
  have hl := hl.isList
  obtain ⟨xs, e⟩ := hi.allInts.items
  have hn : numsOf (intItems xs).toList = ns := by rw [← e]; exact hi.numsOf
  rw [nums_intItems] at hn
  subst hn
  rw [e] at hl
  have hsz : (intItems xs).size = xs.size := by simp [intItems]
  refine PySem.call_max_walkD (PySem.W.iter_listW (A := X.A.in1) (I.ok.hd hc) hl fun s₂ e W st hfp hw hk => ?_)
  refine ⟨_, _, _, _, _, _, _, s.heap, fun i j => decide (numAt xs i > numAt xs j), rfl, W, st, hfp, hw, hk, fun hz s' m => ?_, fun hp => ⟨fun i j vi vj s Q E _ hi hj h => PySem.CmpOf.ints_gt (numAt xs) (fun _ _ => PySem.intItems_at) i j vi vj s Q E hi hj h, fun v s' hP m => ?_⟩⟩
  · obtain ⟨h', tk, rfl, hk'⟩ := PySem.W.moved_old e rfl m
    exact ⟨.int _, H, I.kept hk', ⟨_, rfl⟩, q0 (by rw [hsz] at hz; rw [Array.eq_empty_of_size_eq_zero hz]; rfl)⟩
  · obtain ⟨h', tk, rfl, hk'⟩ := PySem.W.moved_old e rfl m
    obtain ⟨t, rfl⟩ := PySem.intItems_at hP
    obtain ⟨h1, h2⟩ := argBest_gt (numAt xs) (xs.size - 1)
    rw [hsz] at hp ⊢
    refine ⟨.int _, H, I.kept hk', ⟨_, rfl⟩, q1 _ ?_ fun y hy => ?_⟩
    · rw [numAt_eq]; exact PySem.getD_mem (by rw [List.length_map, Array.length_toList]; omega)
    · obtain ⟨j, hj, rfl⟩ := mem_getD hy
      rw [List.length_map, Array.length_toList] at hj
      rw [← numAt_eq]; exact h2 j (by omega)
def maxdB (d : Int) : BM := fun ms R => match ms with
  | [a] => ∃ ns : List Int, lsV a = some (ns.map D.int) ∧ (ns = [] → R (.v (.int d)) ms) ∧ ∀ m, m ∈ ns → (∀ y ∈ ns, y ≤ m) → R (.v (.int m)) ms
  | _ => False
theorem r_maxd {d : Int} {vs : List V} {H : Hp} {Q : VK} (h : rB X.K (maxdB d) vs H Q) : rMaxDf X.K vs [.int d] H Q := by
  obtain ⟨L, ms, R, l, rs, hb, hQ⟩ := h
  unfold maxdB at hb
  split at hb
  · obtain ⟨ns, e0, hr0, hr⟩ := hb
    obtain ⟨x, rfl⟩ := one_of l
    obtain ⟨O, f1, n, h1, r⟩ := RS.one rs
    obtain ⟨a, vs, e1, s1, r1⟩ := h1.ls e0
    cases e1
    rw [ints_from r1] at s1
    exact ⟨a, ns, d, rfl, rfl, s1, fun e => hQ _ _ _ H (hr0 e) (rs.int _), fun m h2 h3 => hQ _ _ _ H (hr m h2 h3) (rs.int _)⟩
  · exact hb.elim
/-- max(xs, default=d) -/
theorem de_maxd {x : Str} {d : Int} {j : Nat} {p pos kpos cpos : Pos} {e : Expr} {es : List Expr} {fs : FOs} (hc : X.calm = true) (hg : Gl X x) (hm : X.mg x = none) (hv : bootBuiltins x = some (.builtin "max")) (ha : DOs X W (e :: es) fs) (hn : x ≠ "__name__" := by decide) (hdb : (x == ("__debug__" : Str)) = false := by decide)
    (he : backTo pos (starEach (e :: es) X.env) = (false, eval e X.env) :: backTo pos (starEach es X.env) := by rfl) (hpl : (backTo pos (starEach (e :: es) X.env)).any (·.1) = false := by rfl)
    (hall : (backToKw pos (keywordEach [⟨some (Str.ofString "default"), .Constant (.int d) j kpos, cpos⟩] X.env)).all (·.1.isSome) = true := by rfl) (hnone : (backToKw pos (keywordEach [⟨some (Str.ofString "default"), .Constant (.int d) j kpos, cpos⟩] X.env)).any (·.1.isNone) = false := by rfl) (hks : (backToKw pos (keywordEach [⟨some (Str.ofString "default"), .Constant (.int d) j kpos, cpos⟩] X.env)).filterMap (·.1) = [Str.ofString "default"] := by rfl) :
    DE X W (.Call (.Name x p) (e :: es) [⟨some (Str.ofString "default"), .Constant (.int d) j kpos, cpos⟩] pos) (fB (maxdB d) fs) :=
  ⟨pe_le (pe_callBK (cr_maxDf hc) hg hm hv ha.pa (pk_cons pe_int pk_nil) hn hdb he hpl hall hnone hks) fun σ H Q h => by
    obtain ⟨G, S, R, XR, l, rs, hF, hQ, hX⟩ := tD_fB h
    exact ⟨G, S, R, XR, l, rs, hF, fun as S1 vs H1 l1 h1 ok1 rs1 => r_maxd (hQ as S1 vs H1 l1 h1 ok1 rs1), hX⟩⟩
end
end DM

/-! A field's list made longer by its own last item and a number. -/
namespace DM
open PySem PySem.Spec PyProof.Rows
open L2
variable [Tabs]
theorem fAt_fSet {f : Str} {y m : M} : ∀ {ns : List Str} {ms : List M}, fAt f ns ms = some m → fAt f ns (fSet f y ns ms) = some y
  | [], ms, h => by cases ms <;> cases h
  | n :: ns, [], h => by cases h
  | n :: ns, x :: ms, h => by
    cases q : f == n with
    | true => rw [fSet_t q, fAt_t q]
    | false =>
      rw [fAt_f q] at h
      rw [fSet_f q, fAt_f q]
      exact fAt_fSet h
theorem fSet_fSet {f : Str} {y z : M} : ∀ {ns : List Str} {ms : List M}, fSet f z ns (fSet f y ns ms) = fSet f z ns ms
  | [], ms => by cases ms <;> rfl
  | n :: ns, [] => rfl
  | n :: ns, x :: ms => by
    cases q : f == n with
    | true => rw [fSet_t q, fSet_t q, fSet_t q]
    | false => rw [fSet_f q, fSet_f q, fSet_f q, fSet_fSet]
def sApL (C : Addr) (f : Str) (i k : Nat) : FE := fun S R _ => getK S i (fun m => match m with
  | .mo C' ns xs => C' = C ∧ fAtK f ns xs (fun y => match y with
    | .ml ds => getK S k (fun z => match z with
      | .v (.int w) => ∃ v, atI ds (-1) = some (.int v) ∧ ds.length < sizeLine ∧ fSetK f (.ml (ds ++ [.int (v + w)])) ns xs fun xs' => setK S i (.mo C' ns xs') fun S' => R (.v .non) S'
      | _ => False) False
    | _ => False) False
  | _ => False) False
section
variable {X : Cx} {W : WX}
theorem de_apL {i k : Nat} {x y : Str} {C : Addr} {f : Str} {p1 p2 p3 p4 p5 p6 p7 p8 p9 p10 : Pos} {j : Nat} (c : Cls X.K C) (n : NoAttr X.K C f) (hN : X.N[i]? = some x := by rfl) (hv : Vis X.env.scope x := by first | exact Or.inl rfl | exact Or.inr (Or.inl rfl) | exact Or.inr (Or.inr rfl)) (hd : (x == ("__debug__" : Str)) = false := by decide)
    (hcd : (x == ("__classdict__" : Str)) = false := by decide) (hN2 : X.N[k]? = some y := by rfl) (hv2 : Vis X.env.scope y := by first | exact Or.inl rfl | exact Or.inr (Or.inl rfl) | exact Or.inr (Or.inr rfl)) (hd2 : (y == ("__debug__" : Str)) = false := by decide)
    (hcd2 : (y == ("__classdict__" : Str)) = false := by decide) (hb : attributeBase (.Name x p1) f X.env (eval (.Name x p1) X.env) = eval (.Name x p1) X.env := by rfl) (hb2 : attributeBase (.Name x p4) f X.env (eval (.Name x p4) X.env) = eval (.Name x p4) X.env := by rfl)
    (hbase : attributeBase (.Attribute (.Name x p1) f p2) "append" X.env (eval (.Attribute (.Name x p1) f p2) X.env) = eval (.Attribute (.Name x p1) f p2) X.env := by rfl)
    (hfew : ((backTo p10 (starEach [.BinOp (.Subscript (.Attribute (.Name x p4) f p5) (.UnaryOp .USub (.Constant (.int 1) j p6) p7) p8) .Add (.Name y p9) p3] X.env)).all (fun x => !x.1) && (backToKw p10 (keywordEach [] X.env)).all (fun x => x.1.isSome)
      && decide (([.BinOp (.Subscript (.Attribute (.Name x p4) f p5) (.UnaryOp .USub (.Constant (.int 1) j p6) p7) p8) .Add (.Name y p9) p3] : List Expr).length + ([] : List Keyword).length + (if ([] : List Keyword).isEmpty then 0 else 1) < 30)) = true := by rfl) {apos : Pos}
    (hline : (apos.endLine == p10.line) = true := by rfl) (hs : starEach [.BinOp (.Subscript (.Attribute (.Name x p4) f p5) (.UnaryOp .USub (.Constant (.int 1) j p6) p7) p8) .Add (.Name y p9) p3] X.env = (false, eval (.BinOp (.Subscript (.Attribute (.Name x p4) f p5) (.UnaryOp .USub (.Constant (.int 1) j p6) p7) p8) .Add (.Name y p9) p3) X.env) :: starEach [] X.env := by rfl) (hplain : (backTo p10 (starEach [] X.env)).any (·.1) = false := by rfl) :
    DE X W (.Call (.Attribute (.Attribute (.Name x p1) f p2) "append" apos) [.BinOp (.Subscript (.Attribute (.Name x p4) f p5) (.UnaryOp .USub (.Constant (.int 1) j p6) p7) p8) .Add (.Name y p9) p3] [] p10) (sApL C f i k) :=
  ⟨pe_le (pe_bm PySem.F.plainAttrs_list PySem.F.slot_list_append PySem.F.type_list_append m_append (pe_fld (pe_var hN hv hd hcd) hb) (pa_cons (pe_op o_add (pe_ix o_ix (pe_fld (pe_var hN hv hd hcd) hb2) (pe_un o_neg pe_int) (by exact fun _ _ => rfl)) (pe_var hN2 hv2 hd2 hcd2)) pa_nil hs) hbase hfew hline hs hplain) fun σ H Q h => by
    obtain ⟨G, S, R, XR, l, rs, hF, hQ, hX⟩ := h
    unfold sApL at hF
    cases e : S[i]? with
    | none => rw [getK_none e] at hF; exact hF.elim
    | some m =>
      rw [getK_some e] at hF
      cases m with
      | mo C' ns xs =>
        obtain ⟨rfl, hF⟩ := hF
        rw [fAtK_eq] at hF
        obtain ⟨x, e1, r⟩ := RS.take rs l e
        cases e2 : fAt f ns xs with
        | none => rw [e2] at hF; exact hF.elim
        | some y =>
          rw [e2] at hF
          cases y with
          | ml ds =>
            cases e3 : S[k]? with
            | none => simp only [getK_none e3] at hF
            | some z =>
              simp only [getK_some e3] at hF
              cases z with
              | v z =>
                cases z with
                | int w =>
                  obtain ⟨v, hat, hz, hF⟩ := hF
                  rw [fSetK_eq, setK_eq] at hF
                  obtain ⟨a, dx, fs, u, ex, hH, hl, ⟨_, _, hm⟩, p1, p2⟩ := RS.pinF r e2
                  subst ex
                  obtain ⟨p, rfl⟩ := hm.refOf (fun z => nomatch z) (fun _ z => nomatch z)
                  have r2 := p2 p rfl
                  obtain ⟨wv, e4, rw⟩ := RS.copy rs l e3
                  have ew : wv = .int w := by
                    obtain ⟨O, f1, nn, hm, _⟩ := RS.one rw
                    exact Option.some.inj hm.int
                  subst ew
                  have r3 : RS X.K H ((some (.ref a), .mo C' ns (fSet f (.v (.ptr p)) ns xs)) :: (((some (.ref p), .ml ds) :: G) ++ σ.zip (S.set i .gone))) := r2.swap
                  have r4 := RS.back r3 (by rw [List.length_set]; exact l) e1
                  rw [set_set'] at r4
                  have l1 : σ.length = (S.set i (.mo C' ns (fSet f (.v (.ptr p)) ns xs))).length := by rw [List.length_set]; exact l
                  have ty : tyV X.K "list" (.ref p) H := RS.tyL (a := .m (.ml ds)) (G := G) l1 trivial r4 rfl
                  refine ⟨_, e1, a, C', dx, fs, .ref p, rfl, hH, c, n, hl, ty, ?_⟩
                  refine ⟨_, e1, a, C', dx, fs, .ref p, rfl, hH, c, n, hl, ?_⟩
                  generalize hS : S.set i (.mo C' ns (fSet f (.v (.ptr p)) ns xs)) = S1 at r4 l1
                  refine ⟨((some (.ref p), .ml ds) :: G) ++ σ.zip S1, [.v (.int 1)], fun r ms => r = .v (.int (-1)) ∧ ms = [.v (.int 1)], rfl, r4.int 1, ⟨rfl, rfl⟩, ?_⟩
                  rintro _ _ v1 H1 ⟨rfl, rfl⟩ s1
                  have q1 : v1 = .int (-1) := by
                    obtain ⟨O, f1, nn, hm, _⟩ := RS.one s1
                    exact Option.some.inj hm.int
                  subst q1
                  have s1 : RS X.K H1 ((some (.ref p), .ml ds) :: (G ++ σ.zip S1)) := s1.drop.drop
                  refine ⟨G ++ σ.zip S1, [.ml ds, .v (.int (-1))], fun r ms => r = .v (.int v) ∧ ms = [.ml ds, .v (.int (-1))], rfl, (s1.int (-1)).swap, ⟨ds, _, rfl, hat, rfl, rfl⟩, ?_⟩
                  rintro _ _ v2 H2 ⟨rfl, rfl⟩ s2
                  have q2 : v2 = .int v := by
                    obtain ⟨O, f1, nn, hm, _⟩ := RS.one s2
                    exact Option.some.inj hm.int
                  subst q2
                  have s2 : RS X.K H2 ((some (.ref p), .ml ds) :: (G ++ σ.zip S1)) := s2.drop.swap.drop
                  refine ⟨_, e4, ?_⟩
                  refine ⟨(some (.ref p), .ml ds) :: (G ++ σ.zip S1), [.v (.int v), .v (.int w)], fun r ms => r = .v (.int (v + w)) ∧ ms = [.v (.int v), .v (.int w)], rfl, (s2.int w).int v, ⟨rfl, rfl⟩, ?_⟩
                  rintro _ _ v3 H3 ⟨rfl, rfl⟩ s3
                  have q3 : v3 = .int (v + w) := by
                    obtain ⟨O, f1, nn, hm, _⟩ := RS.one s3
                    exact Option.some.inj hm.int
                  subst q3
                  have s3 : RS X.K H3 ((some (.ref p), .ml ds) :: (G ++ σ.zip S1)) := s3.drop.drop.drop
                  refine ⟨G ++ σ.zip S1, [.ml ds, .v (.int (v + w))], fun r ms => r = .v .non ∧ ms = [.ml (ds ++ [.int (v + w)]), .v (.int (v + w))], rfl, (s3.int (v + w)).swap, ⟨hz, rfl, rfl⟩, ?_⟩
                  rintro _ _ v4 H4 ⟨rfl, rfl⟩ s4
                  have t4 := RS.swap (RS.perm (List.Perm.cons _ (List.Perm.swap _ _ _)) s4)
                  have s4 : RS X.K H4 ((some (.ref p), .ml (ds ++ [.int (v + w)])) :: (((some v4, .v .non) :: G) ++ σ.zip S1)) := t4.drop.swap
                  have s5 := RS.giveF (i := i) (f := f) l1 s4
                  refine hQ _ _ v4 H4 ?_ hF ?_
                  · rw [List.length_set]; exact l
                  · have eg : giveF i f p (.ml (ds ++ [.int (v + w)])) S1 = S.set i (.mo C' ns (fSet f (.ml (ds ++ [.int (v + w)])) ns xs)) := by
                      subst hS
                      have hi : i < S.length := (List.getElem?_eq_some_iff.mp e).1
                      unfold giveF
                      rw [List.getElem?_set_self hi]
                      simp only [fAt_fSet e2, if_pos, fSet_fSet, set_set']
                    rw [eg] at s5
                    exact s5
                | _ => exact hF.elim
              | _ => exact hF.elim
          | _ => exact hF.elim
      | _ => exact hF.elim⟩
end
end DM

set_option maxHeartbeats 4000000
/-! tuple * int of any size. -/
namespace L2
open PySem PySem.Spec PyProof.Rows
theorem tuple_mul0 (l : Addr) (items : Array Value) (n : Nat) (dd : Option Addr) (sl : Array (Option Value)) (x : Int) (u : Tok) (c0 : (decide (x < -(2 ^ 63)) || decide (x ≥ 2 ^ 63)) = false) (c1 : (items.isEmpty || x == 1) = false) (c2 : (decide (x ≤ 0) || items.isEmpty) = true) :
    Meets (Builtin.«tuple.__mul__» ⟨[.ref l, .int x u], []⟩) (fun _ R s => s.heap.get? l = some { cls := .type "tuple", dict := dd, data := .seq items n, slots := sl } ∧
      R (.ok (.ret (Value.ref s.heap.objs.size))) { s with heap := s.heap.push { cls := Value.type "tuple", data := Data.seq #[] }, toks := s.toks }) :=
  .of_wp fun prog w A R s h => by
    obtain ⟨hp, g, d, tk, os⟩ := s
    obtain ⟨hl, h⟩ := h
    have f1 := AutoSeq1.idx_int
    wp_walk using wpAny_loadPart' hl
    repeat (first
      | (refine wpAny_ite_false (decide_eq_false (by rw [c0]; exact Bool.false_ne_true)) ?_; wp_walk using wpAny_loadPart' hl)
      | (refine wpAny_ite_false (decide_eq_false (by rw [c1]; exact Bool.false_ne_true)) ?_; wp_walk using wpAny_loadPart' hl)
      | (refine wpAny_ite_true (decide_eq_true c2) ?_; wp_walk using wpAny_loadPart' hl))
    exact ⟨_, rfl, h⟩
theorem tuple_mul1 (l : Addr) (items : Array Value) (n : Nat) (dd : Option Addr) (sl : Array (Option Value)) (x : Int) (u : Tok) (c0 : (decide (x < -(2 ^ 63)) || decide (x ≥ 2 ^ 63)) = false) (c1 : (items.isEmpty || x == 1) = true) :
    Meets (Builtin.«tuple.__mul__» ⟨[.ref l, .int x u], []⟩) (fun _ R s => s.heap.get? l = some { cls := .type "tuple", dict := dd, data := .seq items n, slots := sl } ∧
      R (.ok (.ret (Value.ref l))) s) :=
  .of_wp fun prog w A R s h => by
    obtain ⟨hp, g, d, tk, os⟩ := s
    obtain ⟨hl, h⟩ := h
    have f1 := AutoSeq1.idx_int
    wp_walk using wpAny_loadPart' hl
    repeat (first
      | (refine wpAny_ite_false (decide_eq_false (by rw [c0]; exact Bool.false_ne_true)) ?_; wp_walk using wpAny_loadPart' hl)
      | (refine wpAny_ite_true (decide_eq_true c1) ?_; wp_walk using wpAny_loadPart' hl))
    exact ⟨_, rfl, h⟩
def rRepT' (K : PySem.W.Frag) : R2 := fun x y H Q => ∃ l k xs, x = .ref l ∧ y = .int k ∧ SqT K H l xs ∧ xs ≠ [] ∧ -1000000 ≤ k ∧ k ≤ 1000 ∧ xs.length ≤ 1000 ∧ (k = 1 → Q (.ref l) H) ∧ (k ≠ 1 → ∀ p, H p = none → Q (.ref p) (upd H p (.tup (List.replicate k.toNat xs).flatten)))
section
variable {X : Cx}
theorem op_repT' : OpR X (binaryOp .Mult) (rRepT' X.K) := by
  intro pins s σ H x y v u Q I rx ry h
  obtain ⟨l, k, xs, rfl, rfl, hT, hne, h1, h2, hz, q1, q⟩ := h
  by_cases hk : 2 ≤ k
  · exact op_repT pins s σ H _ _ v u Q I rx ry ⟨l, k, xs, rfl, rfl, hT, hne, hk, h2, hz, q (by omega)⟩
  cases rx
  obtain ⟨t, rfl⟩ := ry
  obtain ⟨its, r, ⟨⟨cls, dd, data, sl⟩, ho, hc, n, hd⟩, hs⟩ := I.tuple hT
  simp only at hc hd
  subst hc hd
  have hle : its.length = xs.length := r.length.symm
  have hn : its ≠ [] := fun e => hne (by
    rw [e] at hle
    exact List.eq_nil_of_length_eq_zero hle.symm)
  have hi : its.toArray.isEmpty = false := by
    cases its with
    | nil => exact absurd rfl hn
    | cons a b => rfl
  have c0 : (decide (k < -(2 ^ 63)) || decide (k ≥ 2 ^ 63)) = false := by
    rw [decide_eq_false (by omega), decide_eq_false (by omega)] <;> rfl
  by_cases k1 : k = 1
  · have c1 : (its.toArray.isEmpty || k == 1) = true := by
      rw [hi, Bool.false_or]
      exact beq_iff_eq.mpr k1
    refine wpAny_binaryOp_repeat_ref (T := "tuple") (U := "int") (by decide) ⟨_, ho, rfl⟩ (fun s' => typeIs_int s' k t) noFill_tuple_mul F.fills_int_mul F.slot_int_rmul repeat_tuple F.slot_int_index.lookup
      (call_meets F.slot_int_rmul (typeIs_int s k t) F.entry_int_rmul (F.args_int_rmul_2 _ _) (int_rmul_tuple k t l its.toArray n dd sl)
        ⟨ho, rfl, ⟨_, ho, rfl⟩, call_meets F.slot_tuple_mul ⟨_, ho, rfl⟩ F.entry_tuple_mul (F.args_tuple_mul_2 _ _) (tuple_mul1 l its.toArray n dd sl k t c0 c1) ⟨ho, ?_⟩⟩)
    exact ⟨.ref l, H, I, rfl, q1 k1⟩
  · have c1 : (its.toArray.isEmpty || k == 1) = false := by
      rw [hi, Bool.false_or]
      exact beq_eq_false_iff_ne.mpr k1
    have c2 : (decide (k ≤ 0) || its.toArray.isEmpty) = true := by
      rw [hi, Bool.or_false]
      exact decide_eq_true (by omega)
    have q := q k1
    have e0 : (List.replicate k.toNat xs).flatten = [] := by
      rw [show k.toNat = 0 by omega]
      rfl
    rw [e0] at q
    refine wpAny_binaryOp_repeat_ref (T := "tuple") (U := "int") (by decide) ⟨_, ho, rfl⟩ (fun s' => typeIs_int s' k t) noFill_tuple_mul F.fills_int_mul F.slot_int_rmul repeat_tuple F.slot_int_index.lookup
      (call_meets F.slot_int_rmul (typeIs_int s k t) F.entry_int_rmul (F.args_int_rmul_2 _ _) (int_rmul_tuple k t l its.toArray n dd sl)
        ⟨ho, rfl, ⟨_, ho, rfl⟩, call_meets F.slot_tuple_mul ⟨_, ho, rfl⟩ F.entry_tuple_mul (F.args_tuple_mul_2 _ _) (tuple_mul0 l its.toArray n dd sl k t c0 c1 c2) ⟨ho, ?_⟩⟩)
    refine ⟨.ref s.heap.objs.size, _, I.laid (t' := s.toks) (o := .tup []) (fun b ob q => Heap.get?_push_of_some _ q) (Nat.le_refl _) ?_, rfl, q _ (I.hok.fresh (Nat.le_refl _))⟩
    exact ⟨by rw [sizeLine_eq]; exact Nat.zero_le _, [], .nil, IsTup.new _ _⟩
end
end L2
namespace DM
open PySem PySem.Spec PyProof.Rows
open L2
variable [Tabs]
section
variable {X : Cx}
def repB : BM := fun ms R => match ms with
  | [.v (.tup ds), .v (.int k)] => (ds ≠ [] ∧ ds.length ≤ 1000 ∧ -1000000 ≤ k ∧ k ≤ 1000) ∧ R (.v (.tup (List.replicate k.toNat ds).flatten)) ms
  | _ => False
theorem RDs.rep {K : PySem.W.Frag} {H : Hp} {O : List Addr} {vs : List V} {ds : List D} (h : RDs K H O vs ds) : ∀ n : Nat, RDs K H O (List.replicate n vs).flatten (List.replicate n ds).flatten
  | 0 => .nil
  | n + 1 => by
    rw [List.replicate_succ, List.replicate_succ, List.flatten_cons, List.flatten_cons]
    exact h.append (RDs.rep h n)
theorem o_rep : OpR X (binaryOp .Mult) (r2B X.K repB) := by
  intro pins s σ H x y v u Q I rx ry h
  obtain ⟨L, ms, R, l, rs, hb, hQ⟩ := h
  unfold repB at hb
  split at hb
  · rename_i ds k
    obtain ⟨⟨h0, h1, h2, h3⟩, hr⟩ := hb
    obtain ⟨O, f1, f2, n, m1, m2, r⟩ := RS.two rs
    obtain ⟨a, vs, e1, s1, r1⟩ := m1.tp rfl
    have e2 := m2.int
    cases e1
    cases e2
    refine op_repT' pins s σ H _ _ v u Q I rx ry ⟨a, k, vs, rfl, rfl, s1, fun e => h0 ?_, h2, h3, by rw [r1.length]; exact h1, fun e => ?_, fun e p hp => ?_⟩
    · subst e
      cases r1
      rfl
    · subst e
      have q := RS.dup rs
      have er : (List.replicate (1 : Int).toNat ds).flatten = ds := by
        show ds ++ [] = ds
        exact List.append_nil ds
      rw [er] at hr
      exact hQ _ _ _ H hr q
    · exact hQ _ _ _ _ hr (RS.newTup ⟨O, n, RDs.rep r1 _, r⟩ hp)
  · exact hb.elim
end
end DM

/-! isinstance of an object of another class. -/
namespace DM
open PySem PySem.Spec PyProof.Rows
open L2
variable [Tabs]
section
variable {X : Cx} {W : WX}
theorem call_isF {C C' : Addr} (c : C8.InsC X.K C') (hk : PySem.W.kitOne X.K (.ref C') (.ref C) = some false) : CallR X (.builtin "isinstance") (fun xs H Q => ∃ a dx fs, xs = [.ref a, .ref C] ∧ H a = some (.ins C' dx fs) ∧ Q (.bl false) H) := by
  intro pins s σ H xs us Q I r h
  obtain ⟨a, dx, fs, rfl, ha, q⟩ := h
  exact call_isi pins s σ H _ us Q I r ⟨.ref a, .ref C, .ref C', .ref C, false, rfl, .own C, .base (TyOf.ins ha c.cl c.ha c.hn c.htk c.hm), hk, q⟩
/-- isinstance(x, C), x an instance of C', which has nothing of C -/
def fIsF (C' : Addr) (fo : FO) : FE := fun S R XR => fo S (fun a S1 => getD' a S1 fun x => insC C' x ∧ R (.v (.bl false)) S1) XR
theorem de_isF {C C' : Addr} {e : Expr} {fo : FO} {t : Str} {p pt pos : Pos} (c : C8.InsC X.K C') (hk : PySem.W.kitOne X.K (.ref C') (.ref C) = some false) (hg : Gl X "isinstance") (hm : X.mg "isinstance" = none) (ho : DO X W e fo) (hgt : Gl X t) (hmt : X.mg t = some (.ref C))
    (hd : (t == ("__debug__" : Str)) = false := by decide) (hv : bootBuiltins "isinstance" = some (.builtin "isinstance") := by decide +kernel)
    (he : starEach [e, .Name t pt] X.env = (false, eval e X.env) :: starEach [.Name t pt] X.env := by rfl) (hpl : (backTo pos (starEach [.Name t pt] X.env)).any (·.1) = false := by rfl) (he2 : starEach [.Name t pt] X.env = (false, eval (.Name t pt) X.env) :: starEach [] X.env := by rfl) :
    DE X W (.Call (.Name "isinstance" p) [e, .Name t pt] [] pos) (fIsF C' fo) :=
  ⟨pe_le (pe_callB (call_isF c hk) hg hm hv (pa_cons ho.pe (pa_cons (C8.pe_gc (v := .ref C) hgt ⟨_, hmt, rfl⟩ hd) pa_nil he2) he) (by decide) (by decide) he hpl) fun σ H Q h => by
    obtain ⟨G, S, R, XR, l, rs, hF, hQ, hX⟩ := h
    refine ⟨G, S, _, XR, l, rs, hF, fun a S1 v H1 l1 h1 ok1 rs1 => ?_, hX⟩
    have h1 := getD'_eq h1
    obtain ⟨b, dx, fs, rfl, hb⟩ := RS.insAt l1 ok1 rs1 h1.1
    exact ⟨b, dx, fs, rfl, hb, hQ _ S1 _ H1 l1 h1.2 (rs1.drop.bl _)⟩⟩
end
end DM

/-! o.f += k; a dict display with texts for keys. -/
namespace DM
open PySem PySem.Spec PyProof.Rows
open L2
variable [Tabs]
def augFB (C : Addr) (f : Str) (k : Int) : BM := fun ms R => match ms with
  | [.mo C' ns xs] => C' = C ∧ ns.length < 1000 ∧ fAtK f ns xs (fun y => match y with
    | .v (.int n) => putMK f (.v (.int (n + k))) ns xs fun ns' xs' => R (.v .non) [.mo C' ns' xs']
    | _ => False) False
  | _ => False
def sFAug (C : Addr) (f : Str) (k : Int) (fo : FO) : FS := fun E S => fo S (fun a S1 => callB (augFB C f k) [a] S1 fun _ S2 => E.nx S2) E.ex
section
variable {X : Cx} {W : WX} {mask : List Bool}
theorem rB_augF {K : PySem.W.Frag} {C : Addr} {f : Str} {k : Int} {x : V} {H : Hp} {Q : Hp → Prop} (h : rB K (augFB C f k) [x] H fun _ H' => Q H') : ∃ a dx fs n, x = .ref a ∧ H a = some (.ins C dx fs) ∧ fs.lookup f = some (.int n) ∧ fs.length < 1000 ∧ Q (upd H a (.ins C dx (putF f (.int (n + k)) fs))) := by
  obtain ⟨L, ms, R, l, rs, hb, hQ⟩ := h
  unfold augFB at hb
  split at hb
  · rename_i C' ns xs
    obtain ⟨rfl, hl, hb⟩ := hb
    rw [fAtK_eq] at hb
    have rs : RS K H ((some x, .mo C' ns xs) :: L) := rs
    cases e2 : fAt f ns xs with
    | none => rw [e2] at hb; exact hb.elim
    | some y =>
      rw [e2] at hb
      cases y with
      | v y =>
        cases y with
        | int n =>
          have hb : putMK f (.v (.int (n + k))) ns xs (fun ns' xs' => R (.v .non) [.mo C' ns' xs']) := hb
          obtain ⟨a, dx, fs, u, ex, hH, hlk, ⟨_, _, hm⟩, _, _⟩ := RS.pinF rs e2
          cases ex
          have eu := hm.int
          cases eu
          have rs1 : RS K H ((some (.ref a), .mo C' ns xs) :: (some (.int (n + k)), .v (.int (n + k))) :: L) := (rs.int (n + k)).swap
          obtain ⟨a', dx', fs', e1, e2', e3, ns', xs', q, rs'⟩ := RS.putFld rs1 hb
          cases e1
          rw [hH] at e2'
          cases e2'
          refine ⟨a, dx, fs, n, rfl, hH, hlk, by rw [e3]; exact hl, hQ _ _ .non _ q ?_⟩
          exact rs'.val fun _ => .non
        | _ => exact hb.elim
      | _ => exact hb.elim
  · exact hb.elim
theorem ds_faug {C : Addr} {f : Str} {k : Int} {o : Expr} {fo : FO} {j : Nat} {tpos cpos pos : Pos} (ho : DO X W o fo) (c : Cls X.K C) (n : NoAttr X.K C f) : DS X W mask (.AugAssign (.Attribute o f tpos) .Add (.Constant (.int k) j cpos) pos) (sFAug C f k fo) :=
  ⟨ps_le (ps_fldaug ho.pe pe_int in_add) fun D σ H h => by
    obtain ⟨G, S, E, l, rs, hF, nx, rt, bk, ct, ex⟩ := h
    refine ⟨G, S, _, E.ex, l, rs, hF, fun a S1 x H1 l1 h1 ok1 rs1 => ?_, fun c fs S' d H' l' hx xo => ex c fs S' d σ H' (Ag.refl σ) l' hx xo⟩
    have q : rB X.K (augFB C f k) [x] H1 fun _ H' => D.nx σ H' := rB_of (as := [a]) (vs := [x]) l1 ⟨ok1, trivial⟩ rs1 h1 fun r S3 w H3 l3 h3 rs3 => nx _ _ _ (Ag.refl σ) l3 h3 rs3.drop
    obtain ⟨a', dx, fs, m, e1, e2, e3, e4, q⟩ := rB_augF q
    exact ⟨a', C, dx, fs, _, e1, e2, c, n, e3, ⟨m, k, rfl, rfl, dx, fs, e2, e4, q⟩⟩⟩
end
end DM

/-! A dict display with texts for keys. -/
namespace DM
open PySem PySem.Spec PyProof.Rows
open L2
variable [Tabs]
abbrev FPs := List M → (List (DKey × D) → List M → Prop) → XM → Prop
def tDPs (K : PySem.W.Frag) (W : WX) (F : FPs) (σ : L2.St) (H : Hp) (Q : List (V × V) → Hp → Prop) : Prop := ∃ (G : List Pr) (S : List M) (R : List (DKey × D) → List M → Prop) (XR : XM), σ.length = S.length ∧ RS K H (G ++ σ.zip S) ∧ F S R XR ∧
  (∀ kds S' (vs : List V) H', σ.length = S'.length → vs.length = kds.length → R kds S' → RS K H' ((vs.map some).zip ((kds.map Prod.snd).map M.v) ++ (G ++ σ.zip S')) → Q ((kds.map fun p => kV p.1).zip vs) H') ∧
  (∀ c fs S' d H', σ.length = S'.length → XR (c, fs) S' → XOk K H' d fs (G ++ σ.zip S') → W c d σ H')
structure DPs (X : Cx) (W : WX) (pos : Pos) (keys : List (Option Expr)) (values : List Expr) (F : FPs) : Prop where
  ex : ∃ trs, PPs X pos keys values trs ∧ ∀ σ H Q, tDPs X.K W F σ H Q → tPairs trs σ H Q
def fpNil : FPs := fun S R _ => R [] S
def fpCons (k : Str) (f : FE) (fr : FPs) : FPs := fun S R XR => f S (fun m S1 => asD m fun d => fr S1 (fun kds S2 => R ((.inr k, d) :: kds) S2) XR) XR
def fDisp (F : FPs) : FE := fun S R XR => F S (fun kds S' => (kds.map Prod.fst).Nodup ∧ kds.length ≤ 15 ∧ R (.mk (kds.map Prod.fst) (kds.map Prod.snd)) S') XR
section
variable {X : Cx} {W : WX} {pos : Pos}
theorem dps_nil : DPs X W pos [] [] fpNil := ⟨[], pps_nil, fun σ H Q h => by
  obtain ⟨G, S, R, XR, l, rs, hF, hQ, hX⟩ := h
  exact hQ [] S [] H l rfl hF rs⟩
theorem dps_cons {k : Str} {e : Expr} {ks : List (Option Expr)} {es : List Expr} {f : FE} {fr : FPs} {j : Nat} {p : Pos} (h1 : DE X W e f) (h2 : DPs X W pos ks es fr) : DPs X W pos (some (.Constant (.str k) j p) :: ks) (e :: es) (fpCons k f fr) := by
  obtain ⟨trs, hp, hle⟩ := h2.ex
  refine ⟨_, pps_cons pe_str h1.pe hp, fun σ H Q h => ?_⟩
  obtain ⟨G, S, R, XR, l, rs, hF, hQ, hX⟩ := h
  show tD X.K W f σ H fun y H2 => tPairs trs σ H2 fun ps H3 => Q ((.str k, y) :: ps) H3
  refine ⟨G, S, _, XR, l, rs, hF, fun m S1 v H1 l1 h1 rs1 => ?_, hX⟩
  obtain ⟨d, hd, rs2⟩ := RS.asD rs1 h1
  refine hle σ H1 _ ⟨(some v, .v d) :: G, S1, _, XR, l1, rs2, hd, fun kds S' vs H' l' lv hr rs' => ?_, fun c fs S' d H' l' hx xo => hX c fs S' d H' l' hx xo.drop⟩
  exact hQ ((.inr k, d) :: kds) S' (v :: vs) H' l' (by rw [List.length_cons, List.length_cons, lv]) hr (RS.perm (perm_mid _ _ _) rs')
theorem RL.rds {K : PySem.W.Frag} {H : Hp} {O : List Addr} : ∀ {vs : List V} {ds : List D} {L : List Pr} {O' : List Addr}, vs.length = ds.length → RL K H O ((vs.map some).zip (ds.map M.v) ++ L) O' → RDs K H O vs ds ∧ RL K H O L O'
  | [], [], _, _, _, r => ⟨.nil, r⟩
  | [], _ :: _, _, _, l, _ => nomatch l
  | _ :: _, [], _, _, l, _ => nomatch l
  | v :: vs, d :: ds, L, O', l, r => by
    have r : RL K H O ((some v, .v d) :: ((vs.map some).zip (ds.map M.v) ++ L)) O' := r
    cases r with
    | cons h r2 =>
      cases h with
      | v h =>
        obtain ⟨a, b⟩ := RL.rds (Nat.succ.inj l) r2
        exact ⟨.cons h a, b⟩
theorem zip_keys : ∀ {kds : List (DKey × D)} {vs : List V}, (kds.map fun p => kV p.1).zip vs = ((kds.map Prod.fst).zip vs).map fun kv => (kV kv.1, kv.2)
  | [], _ => rfl
  | _ :: _, [] => rfl
  | p :: kds, v :: vs => by
    show (kV p.1, v) :: (kds.map fun p => kV p.1).zip vs = (kV p.1, v) :: ((kds.map Prod.fst).zip vs).map fun kv => (kV kv.1, kv.2)
    rw [zip_keys]
theorem merge_nodup : ∀ {kvs acc : List (DKey × V)}, ((acc ++ kvs).map Prod.fst).Nodup → mergeK acc kvs = acc ++ kvs
  | [], acc, _ => by
    rw [List.append_nil]
    rfl
  | p :: kvs, acc, h => by
    show mergeK (putK acc p.1 p.2) kvs = _
    have e : putK acc p.1 p.2 = acc ++ [p] := by
      unfold putK
      rw [if_neg]
      intro z
      have := (any_mem p.1 acc).mp z
      rw [List.map_append] at h
      exact (List.nodup_append.mp h).2.2 p.1 this p.1 (List.mem_cons_self) rfl
    rw [e, merge_nodup (by rw [List.append_assoc]; exact h), List.append_assoc]
    rfl
theorem de_disp {keys : List (Option Expr)} {values : List Expr} {F : FPs} (h : DPs X W pos keys values F) (hall : keys.all (·.isSome) = true := by rfl) (hl : keys.length = values.length := by rfl) (h0 : keys ≠ [] := by exact fun z => nomatch z) (h15 : keys.length ≤ 15 := by decide) : DE X W (.Dict keys values pos) (fDisp F) := by
  obtain ⟨trs, hp, hle⟩ := h.ex
  refine ⟨pe_le (pe_disp hp hall hl h0 h15) fun σ H Q h => ?_⟩
  obtain ⟨G, S, R, XR, l, rs, hF, hQ, hX⟩ := h
  intro p hp0
  refine hle σ _ _ ⟨(some (.ref p), .mk [] []) :: G, S, _, XR, l, RS.newK rs hp0, hF, fun kds S' vs H' l' lv hr rs' => ?_, fun c fs S' d H' l' hx xo => hX c fs S' d H' l' hx xo.drop⟩
  obtain ⟨nd, l15, hr⟩ := hr
  have q := RS.perm (perm_mid _ _ _) rs'
  obtain ⟨a, kvs0, e1, hH, e2, O, n, r1, r2, put⟩ := RS.mk2 q
  cases e1
  have k0 : kvs0 = [] := by
    cases kvs0 with
    | nil => rfl
    | cons a l => cases e2
  subst k0
  obtain ⟨_, q1⟩ := r2.tl
  have lv2 : vs.length = (kds.map Prod.snd).length := by rw [lv, List.length_map]
  obtain ⟨rd, _⟩ := RL.rds lv2 q1
  have zl : (kds.map Prod.fst).length = vs.length := by rw [List.length_map, lv]
  have z1 : ((kds.map Prod.fst).zip vs).map Prod.fst = kds.map Prod.fst := List.map_fst_zip (by omega)
  have z2 : ((kds.map Prod.fst).zip vs).map Prod.snd = vs := List.map_snd_zip (by omega)
  refine ⟨hH, (kds.map Prod.fst).zip vs, ?_, by rw [List.length_zip, zl, Nat.min_self, lv]; exact l15, ?_⟩
  · exact zip_keys
  · rw [merge_nodup (by rw [List.nil_append, z1]; exact nd), List.nil_append]
    have q3 := put ((kds.map Prod.fst).zip vs) (kds.map Prod.fst) (kds.map Prod.snd) z1 (by rw [z2]; exact rd)
    have q4 : RS X.K (upd H' p (.dK ((kds.map Prod.fst).zip vs))) ((some (.ref p), .mk (kds.map Prod.fst) (kds.map Prod.snd)) :: ((vs.map some).zip ((kds.map Prod.snd).map M.v) ++ (G ++ σ.zip S'))) := ⟨O, n, q3⟩
    obtain ⟨O2, n2, r4⟩ := q4
    obtain ⟨fp, f2, e, h4, r5⟩ : ∃ fp f2, O2 = fp ++ f2 ∧ RM X.K (upd H' p (.dK ((kds.map Prod.fst).zip vs))) O2 (some (.ref p)) (.mk (kds.map Prod.fst) (kds.map Prod.snd)) fp ∧ RL X.K (upd H' p (.dK ((kds.map Prod.fst).zip vs))) O2 ((vs.map some).zip ((kds.map Prod.snd).map M.v) ++ (G ++ σ.zip S')) f2 := by
      generalize hO : O2 = O3 at r4
      cases r4 with
      | cons a b => exact ⟨_, _, rfl, by first | exact a | (rw [hO]; exact a), by first | exact b | (rw [hO]; exact b)⟩
    obtain ⟨_, r6⟩ := RL.rds lv2 r5
    exact hQ _ _ _ _ l' hr ⟨O2, n2, by rw [e] at *; exact .cons h4 r6⟩
end
end DM

/-! A call of a def whose last parameter is keyword-only and lacks: its default is an int. -/
namespace DM
open PySem PySem.Spec PyProof.Rows
open L2
variable [Tabs]
section
variable {X : Cx} {W : WX} {CX : CXT} {k : Nat} {f : Addr} {fd : FuncData} {ps : List Str} {sp : Sp} {E : L2.St → XK} {t : TA} {x : Str} {e : Expr} {es : List Expr} {p pos : Pos} {ds : List Value} {dvs : List V}
theorem run_fnSD {pins : List (Addr × Obj)} {σ : L2.St} {H : Hp} {s : Shared} {Q : VK} {E : XK} {us : List Value} {vs : List V} (F : FnOk X.prog X.w X.K X.mg X.base CX k f fd ps sp) (hr : Room k X.A) (hb : Binds X.K fd ps ds) (hd : Vals dvs ds) (hx : PassesAt CX X σ E)
    (I : Inv X pins σ H s) (r : Vals vs us) (h : sp (vs ++ dvs) H Q E) : wpAny (model X.prog X.w) X.A (call (.ref f) us) (EP X pins σ Q) X.xe s := by
  have r2 : Vals (vs ++ dvs) (us ++ ds) := r.append hd
  have hl : (us ++ ds).length = ps.length := by rw [← r2.length]; exact F.len _ _ _ _ h
  refine wpAny_call (codeAny_mono (F.run X.A X.stack s H ⟨us, []⟩ (us ++ ds) (vs ++ dvs) Q E hr I.env0 (hb s us I.kIn hl) r2 h) fun r s' hq => ?_)
  cases r with
  | error e => exact hx pins H s e s' I hq
  | ok fl =>
    cases fl with
    | ret u => exact I.after hq
    | next => exact False.elim hq
    | brk => exact False.elim hq
    | cont => exact False.elim hq
def tCallSD (sp : Sp) (dvs : List V) (E : L2.St → XK) (t : TA) : TE := fun σ H Q => t σ H fun vs H1 => sp (vs ++ dvs) H1 Q (E σ)
theorem pe_callSD (F : FnOk X.prog X.w X.K X.mg X.base CX k f fd ps sp) (hr : Room k X.A) (hg : Gl X x) (hm : X.mg x = some (.ref f)) (hk : PySem.W.keepIn X.K (.ref f) = true) (hb : Binds X.K fd ps ds) (hd : Vals dvs ds) (hx : ∀ σ, PassesAt CX X σ (E σ))
    (ha : PA X (e :: es) t) (hdb : (x == ("__debug__" : Str)) = false := by decide) (he : starEach (e :: es) X.env = (false, eval e X.env) :: starEach es X.env := by rfl) (hpl : (backTo pos (starEach es X.env)).any (·.1) = false := by rfl) :
    PE X (.Call (.Name x p) (e :: es) [] pos) (tCallSD sp dvs E t) := by
  refine ⟨fun pins s σ H Q I h => ?_⟩
  refine wpAny_Call_Name_kw (ld_glob I hg hm ?_ hdb)
  refine PySem.W.callWith_K (h₀ := X.base) I.ok.mod.kin hk (thn (ha.run pos pins s σ H _ I h) fun us s1 ⟨vs, H1, I1, r, q⟩ => ⟨I1.kIn, ?_⟩) he hpl
  exact run_fnSD F hr hb hd (hx σ) I1 r q
theorem arsOk_snoc {σ : L2.St} {a : Ar} {v : V} : ∀ {as : List Ar} {vs : List V}, ArsOk σ as vs → ArOk σ a v → ArsOk σ (as ++ [a]) (vs ++ [v])
  | [], [], _, h => ⟨h, trivial⟩
  | [], _ :: _, h, _ => h.elim
  | _ :: _, [], h, _ => h.elim
  | b :: as, w :: vs, h, q => ⟨h.1, arsOk_snoc h.2 q⟩
/-- the last parameter is d by default -/
def fCallD (m : FM) (n : Nat) (d : Int) (fs : FOs) : FE := fun S R XR => fs S (fun as S1 => chk (Nat.beq (as.length + 1) n) (callF m (as ++ [.m (.v (.int d))]) S1 R XR)) XR
theorem de_callD {n : Nat} {m : FM} {d : Int} {fs : FOs} (F : FnOk X.prog X.w X.K X.mg X.base (L2.CX X.prog X.w) k f fd ps (spOf X.K n m)) (tk : Takes X W) (hr : Room k X.A) (hg : Gl X x) (hm : X.mg x = some (.ref f))
    (hk : PySem.W.keepIn X.K (.ref f) = true) (hb : ∃ ds, Vals [V.int d] ds ∧ Binds X.K fd ps ds) (ha : DOs X W (e :: es) fs) (hdb : (x == ("__debug__" : Str)) = false := by decide) (he : starEach (e :: es) X.env = (false, eval e X.env) :: starEach es X.env := by rfl) (hpl : (backTo pos (starEach es X.env)).any (·.1) = false := by rfl) :
    DE X W (.Call (.Name x p) (e :: es) [] pos) (fCallD m n d fs) := by
  obtain ⟨ds, hv, hb⟩ := hb
  refine ⟨pe_le (pe_callSD F hr hg hm hk hb hv (fun σ => passAt tk σ) ha.pa hdb he hpl) fun σ H Q h => ?_⟩
  obtain ⟨G, S, R, XR, l, rs, hF, hQ, hX⟩ := h
  refine ⟨G, S, _, XR, l, rs, hF, fun as S1 vs H1 l1 h1 ok1 rs1 => ?_, hX⟩
  have h1 := h1.ok
  have la : vs.length = as.length := (ok1.len).symm ▸ rfl
  have e1 : ((vs ++ [V.int d]).map some).zip ((as ++ [Ar.m (.v (.int d))]).map arM) = (vs.map some).zip (as.map arM) ++ [(some (V.int d), M.v (.int d))] := by
    rw [List.map_append, List.map_append, List.zip_append (by rw [List.length_map, List.length_map]; exact la)]
    rfl
  have rs2 : RS X.K H1 (((vs ++ [V.int d]).map some).zip ((as ++ [Ar.m (.v (.int d))]).map arM) ++ (G ++ σ.zip S1)) := by
    rw [e1, List.append_assoc]
    exact RS.perm (perm_mid _ _ _).symm (rs1.int d)
  have q := spOf_of (W := W) l1 (arsOk_snoc (a := .m (.v (.int d))) (v := V.int d) ok1 trivial) rs2 h1.2 hQ hX
  rw [List.length_append, List.length_singleton, Nat.eq_of_beq_eq_true h1.1] at q
  exact q
end
end DM

/-! def f(a, *v): a star parameter. -/
namespace DM
open PySem PySem.Spec PyProof.Rows
open L2
variable [Tabs]
/-- what is left over is a new tuple -/
def spStar (K : PySem.W.Frag) (np n : Nat) (m : FM) : Sp := fun vs H Q E => ∃ ws rest, vs = ws ++ rest ∧ ws.length = np ∧ rest.length ≤ sizeLine ∧ ∀ p, H p = Option.none → spOf K n m (ws ++ [V.ref p]) (upd H p (.tup rest)) Q E
section
variable {P : Program} {w : World} {K : PySem.W.Frag} {mg : Str → Option Value} {base : Heap}
theorem fn_okS {x qual : Str} {st : Stmt} {f : Addr} {fd : FuncData} {kws : List (Str × V)} {N ps : List Str} {pv : Str} {k : Nat} {mask : List Bool} {B : FS} {m : FM} (F : FunD K x qual (defArgs st) (defBody st) (defScope st) [] kws f fd) (Sc : FnScope N (ps ++ [pv]) (defScope st))
    (hb : ∀ (kV doc pm : Value) (an : Option Addr) (cdv ct : Value) (us rest : List Value), us.length = ps.length → bindArgs (PySem.W.fnOf x qual (defArgs st) (defBody st) (defScope st) .none kV doc pm an cdv ct) ⟨us ++ rest, []⟩ = (newTuple rest >>= fun t => pure (ps.zip us ++ [(pv, t)])))
    (hmask : mask.length = ps.length + 1)
    (body : ∀ (cdv : Value) (A : Around) (outer : List Env) (s : Shared) (H : Hp) (E : XK), fd.code = cdv → Room k (A.deeper (envOfC qual (defScope st) s.heap.objs.size f cdv)) → Takes (cxOf (L2.CX P w) P w K mg base N qual (defScope st) f cdv A outer s H E) (fun c d _ H => E c d H) →
      PassesOwn (model P w) (A.deeper (envOfC qual (defScope st) s.heap.objs.size f cdv)) (envOfC qual (defScope st) s.heap.objs.size f cdv) (cxOf (L2.CX P w) P w K mg base N qual (defScope st) f cdv A outer s H E).xe →
      DSs (cxOf (L2.CX P w) P w K mg base N qual (defScope st) f cdv A outer s H E) (fun c d _ H => E c d H) mask (defBody st) B)
    (hm : BodyIs mask N.length B m) : FnR P w K mg base (L2.CX P w) (k + 1) f (spStar K ps.length (ps.length + 1) m) := by
  have hpl : (ps ++ [pv]).length ≤ N.length := by have := congrArg List.length Sc.pre; rw [List.length_take] at this; omega
  rw [List.length_append, List.length_singleton] at hpl
  obtain ⟨oc, od, dV, kV, doc, pm, an, cdv, ct, osl, rfl, lk, hcd, hD, _⟩ := F.ex
  obtain rfl : dV = .none := by
    rcases hD with ⟨_, e⟩ | ⟨e, _⟩
    · exact e
    · exact absurd rfl e
  refine StX.fn_star lk hcd Sc StX.cxUp (hb kV doc pm an cdv ct) fun A outer s H vs Q E hr h => ?_
  refine ⟨_, (body cdv A outer s H E rfl hr (takes_of rfl rfl rfl rfl) (passes_of rfl)).ps, ?_⟩
  obtain ⟨lv, G, ms, R, XR, lm, rs, hms, hQ, hX⟩ := h
  have lN : N.length - vs.length = N.length - mask.length := by rw [lv, hmask]
  have len0 : (L2.start N vs).length = (ms ++ List.replicate (N.length - mask.length) M.gone).length := by
    unfold L2.start
    rw [List.length_append, List.length_append, List.length_map, List.length_replicate, List.length_replicate, lv, lm, hmask]
  have rs0 : RS K H (G ++ (L2.start N vs).zip (ms ++ List.replicate (N.length - mask.length) M.gone)) := by
    unfold L2.start
    rw [List.zip_append (by rw [List.length_map, lv, lm]), lN]
    obtain ⟨O, n, r⟩ := RS.perm List.perm_append_comm rs
    refine ⟨O, n, ?_⟩
    rw [← List.append_assoc]
    have q := r.append (RL.gones (K := K) (H := H) (O := O) r.tabs (N.length - mask.length))
    rw [List.append_nil] at q
    exact q
  have hmk : mask.length = vs.length := by rw [hmask, lv]
  have fin : ∀ {σ' : L2.St}, Ag mask (L2.start N vs) σ' → ∀ i : Nat, mask[i]? = some true → ∃ v, vs[i]? = some v ∧ σ'[i]? = some (some v) := fun {σ'} ag i hi => by
    have hi' : i < vs.length := by rw [← hmk]; exact (List.getElem?_eq_some_iff.mp hi).1
    refine ⟨vs[i], List.getElem?_eq_getElem hi', ?_⟩
    rw [ag.same i hi]
    unfold L2.start
    rw [List.getElem?_append_left (by rw [List.length_map]; exact hi'), List.getElem?_map, List.getElem?_eq_getElem hi']
    rfl
  refine ⟨G, _, _, len0, rs0, hm ms R XR (by rw [lm, hmask]) hms, fun S' σ' H' ag l' hn rs' => ?_, fun r S' v σ' H' ag l' hr rs' => ?_, fun _ _ _ _ _ h _ => h.elim, fun _ _ _ _ _ h _ => h.elim, fun c fs S' d σ' H' ag l' hx xo => ?_⟩
  · exact hQ _ _ _ H' hn ((RS.outs hmk l' (fin ag) rs').val fun _ => .non)
  · have q := RS.outs (G := (some v, r) :: G) hmk l' (fin ag) rs'
    exact hQ _ _ _ H' hr (RS.perm (perm_mid _ _ _) q)
  · refine hX c fs _ d H' hx (xo.imp fun L1 r => ?_)
    have r1 : RS K H' ((L1 ++ G) ++ σ'.zip S') := by rw [List.append_assoc]; exact r
    exact RS.rot (RS.outs hmk l' (fin ag) r1)
end
/-- data, one behind another -/
def dsOf : List Ar → (List D → Prop) → Prop
  | [], k => k []
  | .m (.v d) :: as, k => dsOf as fun ds => k (d :: ds)
  | _, _ => False
def fCallS (m : FM) (fs : FOs) : FE := fun S R XR => fs S (fun as S1 => match as with
  | a :: rest => dsOf rest fun ds => ds.length ≤ sizeLine ∧ callF m [a, .m (.v (.tup ds))] S1 R XR
  | [] => False) XR
theorem dsOf.ok : ∀ {as : List Ar} {k : List D → Prop}, dsOf as k → ∃ ds, as.map arM = ds.map M.v ∧ k ds
  | [], _, h => ⟨[], rfl, h⟩
  | .m (.v d) :: as, _, h => by
    obtain ⟨ds, e, q⟩ := dsOf.ok (as := as) h
    exact ⟨d :: ds, by rw [List.map_cons, List.map_cons, e]; rfl, q⟩
  | .m .gone :: _, _, h => h.elim
  | .m (.ml _) :: _, _, h => h.elim
  | .m (.mk _ _) :: _, _, h => h.elim
  | .m (.mt _ _) :: _, _, h => h.elim
  | .m (.mo _ _ _) :: _, _, h => h.elim
  | .m (.mkm _ _) :: _, _, h => h.elim
  | .n _ :: _, _, h => h.elim
  | .f _ _ _ _ :: _, _, h => h.elim
section
variable {X : Cx} {W : WX} {k : Nat} {f : Addr} {sp : Sp} {E : L2.St → XK} {t : TA} {x : Str} {e : Expr} {es : List Expr} {p pos : Pos}
theorem pe_callRS {CX : CXT} (F : FnR X.prog X.w X.K X.mg X.base CX k f sp) (hr : Room k X.A) (hg : Gl X x) (hm : X.mg x = some (.ref f)) (hk : PySem.W.keepIn X.K (.ref f) = true) (hx : ∀ σ, PassesAt CX X σ (E σ))
    (ha : PA X (e :: es) t) (hdb : (x == ("__debug__" : Str)) = false := by decide) (he : starEach (e :: es) X.env = (false, eval e X.env) :: starEach es X.env := by rfl) (hpl : (backTo pos (starEach es X.env)).any (·.1) = false := by rfl) :
    PE X (.Call (.Name x p) (e :: es) [] pos) (fun σ H Q => t σ H fun vs H1 => sp vs H1 Q (E σ)) := by
  refine ⟨fun pins s σ H Q I h => ?_⟩
  refine wpAny_Call_Name_kw (ld_glob I hg hm ?_ hdb)
  refine PySem.W.callWith_K (h₀ := X.base) I.ok.mod.kin hk (thn (ha.run pos pins s σ H _ I h) fun us s1 ⟨vs, H1, I1, r, q⟩ => ⟨I1.kIn, ?_⟩) he hpl
  refine wpAny_call (codeAny_mono (F X.A X.stack s1 H1 us vs Q (E σ) hr I1.env0 r q) fun r s' hq => ?_)
  cases r with
  | error e => exact hx σ pins H1 s1 e s' I1 hq
  | ok fl =>
    cases fl with
    | ret u => exact I1.after hq
    | next => exact False.elim hq
    | brk => exact False.elim hq
    | cont => exact False.elim hq
theorem de_callS {m : FM} {fs : FOs} (F : FnR X.prog X.w X.K X.mg X.base (L2.CX X.prog X.w) k f (spStar X.K 1 2 m)) (tk : Takes X W) (hr : Room k X.A) (hg : Gl X x) (hm : X.mg x = some (.ref f))
    (hk : PySem.W.keepIn X.K (.ref f) = true) (ha : DOs X W (e :: es) fs) (hdb : (x == ("__debug__" : Str)) = false := by decide) (he : starEach (e :: es) X.env = (false, eval e X.env) :: starEach es X.env := by rfl) (hpl : (backTo pos (starEach es X.env)).any (·.1) = false := by rfl) :
    DE X W (.Call (.Name x p) (e :: es) [] pos) (fCallS m fs) := by
  refine ⟨pe_le (pe_callRS F hr hg hm hk (fun σ => passAt tk σ) ha.pa hdb he hpl) fun σ H Q h => ?_⟩
  obtain ⟨G, S, R, XR, l, rs, hF, hQ, hX⟩ := h
  refine ⟨G, S, _, XR, l, rs, hF, fun as S1 vs H1 l1 h1 ok1 rs1 => ?_, hX⟩
  cases as with
  | nil => exact h1.elim
  | cons a rest =>
    cases vs with
    | nil => exact ok1.elim
    | cons v vs =>
      obtain ⟨ds, e1, hz, h1⟩ := dsOf.ok h1
      obtain ⟨o1, o2⟩ := ok1
      have lr : vs.length = ds.length := by
        have := congrArg List.length e1
        rw [List.length_map, List.length_map] at this
        rw [← this]
        exact o2.len
      refine ⟨[v], vs, rfl, rfl, by omega, fun p hp => ?_⟩
      have rs2 : RS X.K H1 ((some v, arM a) :: ((vs.map some).zip (ds.map M.v) ++ (G ++ σ.zip S1))) := by
        rw [← e1]
        exact rs1
      have rs3 : RS X.K H1 ((vs.map some).zip (ds.map M.v) ++ ((some v, arM a) :: (G ++ σ.zip S1))) := RS.perm (perm_mid _ _ _).symm rs2
      obtain ⟨O, n, r⟩ := rs3
      obtain ⟨rd, _⟩ := RL.rds lr r
      have rs4 : RS X.K (upd H1 p (.tup vs)) ((some (.ref p), .v (.tup ds)) :: ((vs.map some).zip (ds.map M.v) ++ ((some v, arM a) :: (G ++ σ.zip S1)))) := RS.newTup ⟨O, n, rd, r⟩ hp
      have rs5 : RS X.K (upd H1 p (.tup vs)) ((some v, arM a) :: (some (.ref p), .v (.tup ds)) :: (((vs.map some).zip (ds.map M.v) ++ G) ++ σ.zip S1)) := by
        rw [List.append_assoc]
        exact RS.swap (RS.perm (List.Perm.cons _ (perm_mid _ _ _)) rs4)
      exact spOf_of (W := W) (as := [a, .m (.v (.tup ds))]) (vs := [v, .ref p]) (G := (vs.map some).zip (ds.map M.v) ++ G) l1 ⟨o1, trivial, trivial⟩ rs5 h1
        (fun r S' w' H' l' hr rs' => hQ r S' w' H' l' hr (by
          have q : RS X.K H' (((some w', r) :: (vs.map some).zip (ds.map M.v)) ++ (G ++ σ.zip S')) := by
            rw [List.cons_append, ← List.append_assoc]
            exact rs'
          have q2 := RS.perm (List.perm_append_comm (l₁ := (some w', r) :: (vs.map some).zip (ds.map M.v)) (l₂ := G ++ σ.zip S')) q
          have q3 : RS X.K H' ((vs.map some).zip (ds.map M.v) ++ ((some w', r) :: (G ++ σ.zip S'))) := RS.perm (by
            rw [List.cons_append]
            exact (perm_mid _ _ _).symm) q
          exact RS.dropL q3))
        (fun c fs S' d H' l' hx xo => hX c fs S' d H' l' hx (xo.imp fun L1 r => by
          have q : RS X.K H' ((vs.map some).zip (ds.map M.v) ++ (L1 ++ (G ++ σ.zip S'))) := RS.perm (by
            rw [List.append_assoc]
            exact (List.perm_append_comm_assoc _ _ _)) r
          exact RS.dropL q))
end
end DM

set_option maxHeartbeats 3000000
/-! An own exception whose __init__ says super().__init__(t + str(x)); self.f = x. -/
namespace DM
open PySem PySem.Spec PyProof.Rows
open L2
/-- what the written part says of the class -/
structure SupC (P : Program) (K : PySem.W.Frag) (C fI : Addr) (F : NdefX.NF) (cc : Addr) (fl : Str) : Prop where
  ox : OexC K C
  no : PySem.W.findIn K (.ref C) fl = some none
  ini : PySem.W.findIn K (.ref C) "__init__" = some (some (.ref fI))
  ty : PySem.W.typeIn K (.ref fI) = some (.type "function")
  fn : ∃ oc od osl kV doc pm an ct, K.lookup fI = some ⟨oc, od, .func (PySem.W.fnX F.name F.qual F.params F.body F.scope F.cl .none kV doc pm an (.ref F.c) ct), osl⟩
  code : PySem.W.codeIn K (.ref F.c) F.qual = true
  file : ∃ oc od vs osl tf, K.lookup F.c = some ⟨oc, od, .fields vs, osl⟩ ∧ vs[2]? = some (.str P.main.file tf)
  cl : F.cl = [(("__class__" : Str), cc)]
  cell : ∃ cl cld csl, K.lookup cc = some ⟨cl, cld, .cell (some (.ref C)), csl⟩
  opq : PySem.W.nsIn K cStatics "thirdparty.any" = some none
  sup : PySem.W.ks_superIn K C C "__init__" = some (some (.builtin "ValueError.__init__"))
  ve : PySem.W.subIn K (.ref C) (.type "ValueError") = some true
  keep : PySem.W.keepIn K (.ref C) = true
  top : (P.main.scope.names.lookup ("super" : Str)).isSome = false
/-- super().__init__(..) called -/
theorem kxs_callI {X : Cx} {pins : List (Addr × Obj)} {σ : L2.St} {H : Hp} {s : Shared} {A : Around} {E : Value → Shared → Prop} {a C u : Addr} {rest : List Value} {Q : Value → Shared → Prop} (T : OexC X.K C) (I : Inv X pins σ H s) (e : H a = some (exo a C none))
    (hu : PySem.W.KxsAt "ValueError.__init__" u a s.heap) (hz : rest.length ≤ sizeLine) (h : ∀ s', Inv X pins σ H s' → Q .none s') : wpAny (model X.prog X.w) A (call (.ref u) rest) Q E s := by
  obtain ⟨nm, q, N, bs, bm, sn, sub, ab, col, dd, k0, k1, k2, k3, k5, hC, hbm⟩ := T.cls
  have hC := I.kIn _ _ hC
  obtain ⟨t1, ho⟩ := exo_at I.hok e
  obtain ⟨hp, g, d, t, os⟩ := s
  refine wpAny_call (codeAny_of_tree ?_)
  show wpAny _ A.in1 (callAny (.ref u) ⟨rest, []⟩) _ _ _
  simp only [callAny]
  refine wpAny_bind (wpAny_load hu ?_)
  simp only [PySem.W.kxs_mw, show (Value.type "method-wrapper" == Value.type "method" || Value.type "method-wrapper" == Value.type "builtin_function_or_method" || Value.type "method-wrapper" == Value.type "method-wrapper") = true by decide, if_true]
  refine PySem.W.KFB.if_so (by decide) ?_
  refine wpAny_bind (PySem.W.check_bound_init F.excBase_ValueError.toExcCallFacts hC ho rfl ?_)
  refine wpAny_bind (wpAny_pure (wpAny_pure ?_))
  refine ⟨plainId_quiet F.excBase_ValueError.init.plain _, codeAny_builtin F.excBase_ValueError.initEntry ?_⟩
  refine PySem.W.exc_init_tree (cls := .ref C) (t0 := t1) (dv := none) (c2 := .none) (c3 := .none) (b4 := .bool false) ho hz fun h' k hx _ => ?_
  have J := I.write (t' := t) (x := a) (e := a) (o := exo a C none) (by rw [e]; exact True.intro) (.inl rfl) k ⟨_, hx⟩ (exo_ok hx)
  have eu : upd H a (exo a C none) = H := by
    funext b
    by_cases hb : b = a
    · rw [hb, upd_same, e]
    · rw [upd_ne hb]
  rw [eu] at J
  exact h _ J

/-- the __init__ -/
def supBody (t fl x : Str) (ps : Nat → Pos) (j : Nat) : List Stmt :=
  [.Expr (.Call (.Attribute (.Call (.Name "super" (ps 0)) [] [] (ps 1)) "__init__" (ps 2)) [.BinOp (.Constant (.str t) j (ps 3)) .Add (.Call (.Name "str" (ps 4)) [.Name x (ps 5)] [] (ps 6)) (ps 7)] [] (ps 8)) (ps 9),
   .Assign [.Attribute (.Name "self" (ps 10)) fl (ps 11)] (.Name x (ps 12)) (ps 13)]
section
variable {P : Program} {w : World} {K : PySem.W.Frag} {mg : Str → Option Value} {base : Heap} {CX : CXT} {C fI cc : Addr} {F : NdefX.NF} {fl x t : Str}
theorem sup_run {k : Nat} {ar : Arg} {ps : Nat → Pos} {j : Nat} {A : Around} {outer : List Env} {s : Shared} {H : Hp} {a : Addr} {i : Int} {u : Value} {Q : VK} {E : XK} (T : SupC P K C fI F cc fl) (S : NdefX.NScope [("self" : Str), x, "__class__"] [("self" : Str), x] [("__class__" : Str)] F.scope)
    (gs : F.scope.names.lookup ("super" : Str) = some .globalImplicit) (gt : F.scope.names.lookup ("str" : Str) = some .globalImplicit) (hp : (F.params.posonlyargs ++ F.params.args).head? = some ar) (har : ar.arg = "self")
    (hb : ∀ (kV doc pm : Value) (an : Option Addr) (ct : Value) (us : List Value), us.length = 2 → bindArgs (PySem.W.fnX F.name F.qual F.params F.body F.scope F.cl .none kV doc pm an (.ref F.c) ct) ⟨us, []⟩ = pure ([("self" : Str), x].zip us))
    (hev : ∀ env : Env, eval (.Call (.Attribute (.Call (.Name "super" (ps 0)) [] [] (ps 1)) "__init__" (ps 2)) [.BinOp (.Constant (.str t) j (ps 3)) .Add (.Call (.Name "str" (ps 4)) [.Name x (ps 5)] [] (ps 6)) (ps 7)] [] (ps 8)) env = (do
      let ov ← attributeBase (.Call (.Name "super" (ps 0)) [] [] (ps 1)) "__init__" env (eval (.Call (.Name "super" (ps 0)) [] [] (ps 1)) env)
      standAt (ps 2).atName
      let (f, first) ← holding [ov] (getMethod ov "__init__" (do return (← importBound (.Call (.Name "super" (ps 0)) [] [] (ps 1)) env).getD true))
      callWith (ps 8) f first (backTo (ps 8) (starEach [.BinOp (.Constant (.str t) j (ps 3)) .Add (.Call (.Name "str" (ps 4)) [.Name x (ps 5)] [] (ps 6)) (ps 7)] env)) []))
    (hbody : F.body = supBody t fl x ps j) (m1 : mg "super" = none) (m2 : mg "str" = none) (ht : t.length ≤ 1000) (hx1 : (x == ("__debug__" : Str)) = false) (hx2 : (x == ("__classdict__" : Str)) = false) (hr : Room (k + 1) A) (e0 : Env0 P w K mg base A outer s H) (he : H a = some (exo a C none)) (hi : i.natAbs.log2 < 1920) (hu : RelV (.int i) u)
    (hq : ∀ d, H d = none → d ≠ a → Q .non (upd (upd H d (exd d [(fl, .int i)])) a (exo a C (some d)))) :
    codeAny (model P w) A (.call (.ref fI) ⟨[.ref a, u], []⟩) (CR CX outer P w H s Q E) s := by
  obtain ⟨oc, od, osl, kV, doc, pm, an, ct, hf⟩ := T.fn
  have KX : K.In s.heap := e0.mod.kin.keeps fun b o e => (e0.bs b o e).1
  have lim : s.heap.NoLimit := e0.mod.nolimit.keeps fun b o e => (e0.bs b o e).1
  obtain ⟨ecl, ecd, ecs, hce⟩ := T.cell
  refine PySem.ks_codeAny_call_defAt (fd := PySem.W.fnX F.name F.qual F.params F.body F.scope F.cl .none kV doc pm an (.ref F.c) ct) (body := F.body) (binds := [("self" : Str), x].zip [.ref a, u]) hr.depth (KX _ _ hf) rfl lim
    (PySem.W.codeRec_of KX T.code) rfl (.of_eq (hb _ _ _ _ _ _ rfl)) S.nocell (fun y hy => S.par y.1 (List.of_mem_zip hy).1) (fun h₁ hns kp => ?_) S.co S.gen S.kind
  have C0 : NdefX.CellsAt F.cl [("__class__" : Str)] [none] s.heap H := by
    rw [T.cl]
    have lk : ∀ {y : Str} {c : Addr}, ([(("__class__" : Str), cc)] : List (Str × Addr)).lookup y = some c → y = "__class__" ∧ c = cc := fun {y c} e => by
      have m := PySem.mem_of_lookup e
      rw [List.mem_singleton] at m
      exact ⟨congrArg Prod.fst m, congrArg Prod.snd m⟩
    refine ⟨rfl, fun y c e => ?_, fun y z c e1 e2 => (lk e1).1.trans (lk e2).1.symm, fun n y e => ?_⟩
    · obtain ⟨_, rfl⟩ := lk e
      obtain ⟨b1, b2⟩ := e0.bs _ _ (e0.mod.kin _ _ hce)
      exact ⟨b2, _, _, b1, rfl⟩
    · match n, e with
      | 0, e =>
        cases e
        exact ⟨cc, by simp [List.lookup], fun v h => nomatch h⟩
      | n + 1, e => cases e
  have I : Inv (NdefX.ncx CX P w K mg base [("self" : Str), x, "__class__"] F fI A outer s H E) [] (NdefX.startF [("self" : Str), x, "__class__"] [.ref a, .int i] [none]) H { s with heap := h₁, toks := s.toks + 2 } :=
    NdefX.inv_startN S hr.hd e0 rfl (.cons rfl (.cons hu .nil)) C0 hns kp
  have bk : ∀ b o, K.lookup b = some o → h₁.get? b = some o := fun b o e => kp _ _ (KX _ _ e)
  obtain ⟨c1, c2, vs, c4, tf, hcode, hvs⟩ := T.file
  obtain ⟨t1, ho⟩ := exo_at I.hok he
  obtain ⟨nm, q, N, bs, bm, sn, sub, ab, col, dd, k0, k1, k2, k3, k5, hC, hbm⟩ := T.ox.cls
  have hcl : PySem.W.clsIn K C = some { name := nm, bases := bs, mro := .ref C :: bm, ns := N, qualname := q, hasDict := true, slotNames := sn, subclasses := sub, abstract := ab, collection := col, hasDel := false } := by unfold PySem.W.clsIn; rw [hC] <;> rfl
  have X1 : K.In h₁ := bk
  have IA : PySem.W.InstAt h₁ a ({ cls := .ref C, dict := none, data := .fields #[.ref t1, .none, .none, .none, .bool false, .none] } : Obj) C none := ⟨ho, rfl, rfl, trivial⟩
  have nac : a ≠ C := PySem.W.ks_ne X1 IA hcl
  have hsub : PySem.W.mroIn K C (.ref C) = some true := by
    unfold PySem.W.mroIn
    rw [hcl, Option.bind_some]
    simp
  have sup : PySem.W.alongIn K "__init__" bm = some (some (.builtin "ValueError.__init__")) := by
    have z := T.sup
    unfold PySem.W.ks_superIn at z
    rw [hcl] at z
    simpa [List.dropWhile_cons] using z
  have eb : execs F.body (callEnv (PySem.W.fnX F.name F.qual F.params F.body F.scope F.cl .none kV doc pm an (.ref F.c) ct) s.heap.objs.size fI) = execs (supBody t fl x ps j) (NdefX.envF F fI s.heap.objs.size) := by
    rw [hbody] <;> rfl
  rw [eb]
  show _root_.PySem.wpAt (model P w) (A.deeper (NdefX.envF F fI s.heap.objs.size)) (.func F.body (NdefX.envF F fI s.heap.objs.size)) _ _ _ _
  unfold supBody
  have kc : (NdefX.envF F fI s.heap.objs.size).kindOf "__class__" = some .free := S.frk _ (by simp)
  refine PySem.ks_wpAt_execs_cons ?_
  refine PySem.ks_wpAt_Expr_any ?_ I.quiet rfl
  refine PySem.ks_wpAt_MethodCall ?_ (hev _)
  refine PySem.ks_wpAt_super_base (of := ⟨oc, od, .func (PySem.W.fnX F.name F.qual F.params F.body F.scope F.cl .none kV doc pm an (.ref F.c) ct), osl⟩) (oc := ⟨c1, c2, .fields vs, c4⟩) (f := fI) (cc := F.c) gs kc (by decide) rfl (bk _ _ hf) rfl hp rfl (bk _ _ hcode) rfl hvs (by simp) T.top ?_
  obtain ⟨mb, hb1, hb2⟩ := I.mod.blt
  refine PySem.W.ks_loadName_global S.kind gs (PySem.Calls.loadGlobal_builtin (env := NdefX.envF F fI s.heap.objs.size) (I.mod.glob.keeps I.bk) m1 (hb1.keeps I.bk) ((hb2 _ (by decide)).trans PyProof.Rows.Boot.«super») ⟨rfl, ?_⟩)
  refine PySem.wpAny_loadName_free S.kind kc (c := cc) (by show F.cl.lookup _ = _; rw [T.cl]; simp [List.lookup]) ⟨_, bk _ _ hce, rfl⟩ ?_
  refine wpAny_loadName_local (m := fun y => ([(("self" : Str), Value.ref a), (x, u)] : List (Str × Value)).reverse.lookup y) (v := .ref a) S.kind (by rw [har]; exact S.par _ (by simp)) hns ?_ ?_
  · rw [har]
    exact NdefX.zip_look (i := 0) (ps := [("self" : Str), x]) (us := [.ref a, u]) (S.nd.sublist (by simp)) rfl rfl
  refine PySem.ks_wpAny_isType_cls (bk _ _ hC) rfl ⟨rfl, ?_⟩
  refine PySem.ks_wpAny_call_super (bk _ _ hC) rfl ho rfl (fun c e => nomatch e) (PySem.W.looks_mroIn X1 hsub) fun h2 e2 k2 => ?_
  have X2 : K.In h2 := fun b o e => k2 _ _ (X1 _ _ e)
  have IA2 : PySem.W.InstAt h2 a ({ cls := .ref C, dict := none, data := .fields #[.ref t1, .none, .none, .none, .bool false, .none] } : Obj) C none := ⟨k2 _ _ ho, rfl, rfl, trivial⟩
  refine PySem.W.kxs_getMethod PySem.W.kxs_ValueError (D := C) (C := C) (l₀ := .ref C :: bm) (l := bm) e2 (PySem.W.looks_opaque X2 T.opq) (fun A Q E s k q => wpAny_bind ((PySem.W.looks_clsIn X2 hcl) A _ E s k (wpAny_pure q))) (by simp [List.dropWhile_cons]) X2 sup
    (IA2.type.andThen (PySem.W.looks_subIn X2 T.ve)) nac (by decide) ?_
  have I2 := I.kept (t' := s.toks + 2 + 1) (h' := h2.push (PySem.W.kxs_mw "ValueError.__init__" a)) fun b o e => Heap.get?_push_of_some _ (k2 _ _ e)
  have hu2 : (h2.push (PySem.W.kxs_mw "ValueError.__init__" a)).get? h2.objs.size = some (PySem.W.kxs_mw "ValueError.__init__" a) := Heap.get?_push_at rfl rfl
  have nle : h₁.objs.size ≤ h2.objs.size := Nat.le_of_lt (Heap.lt_size e2)
  have I3 : Inv (NdefX.ncx CX P w K mg base [("self" : Str), x, "__class__"] F fI A outer s H E) [(h2.objs.size, PySem.W.kxs_mw "ValueError.__init__" a)] (NdefX.startF [("self" : Str), x, "__class__"] [.ref a, .int i] [none]) H _ := I2.pins_of fun p hp => by
    obtain rfl := List.mem_singleton.mp hp
    exact ⟨hu2, I.hok.fresh nle, Nat.ne_of_gt (Nat.lt_of_lt_of_le I.lt nle), I.nofs nle, fun v z => nomatch z⟩
  have hx : (NdefX.ncx CX P w K mg base [("self" : Str), x, "__class__"] F fI A outer s H E).N[1]? = some x := rfl
  have hs : (NdefX.ncx CX P w K mg base [("self" : Str), x, "__class__"] F fI A outer s H E).N[0]? = some ("self" : Str) := rfl
  refine PySem.W.kxs_callWith (i := "ValueError.__init__") (x := a) rfl (PySem.Calls.evalArgs_plain ?_)
  refine thn ((pa_cons (pe_op op_add_str pe_str (pe_callTy call_str_int (show Gl (NdefX.ncx CX P w K mg base [("self" : Str), x, "__class__"] F fI A outer s H E) "str" from gt) m2 PyProof.Rows.Boot.«str» (pa_cons (pe_var hx (.inl (S.par _ (by simp))) hx1 hx2) pa_nil))) pa_nil).run (ps 8) _ _ _ _ (fun vs H1 => vs.length ≤ 1000 ∧ H1 = H) I3 ?_) fun us s4 hh => ?_
  · refine ⟨.int i, rfl, i, rfl, hi, t, _, rfl, rfl, ?_, by simp, rfl⟩
    have := PyProof.Rows.int_text_len_1921 hi
    rw [sizeLine_eq]
    omega
  obtain ⟨vs4, H4, I4, r4, q4, rfl⟩ := hh
  have pu := (I4.pin (h2.objs.size, PySem.W.kxs_mw "ValueError.__init__" a) (by simp)).1
  refine ⟨pu, ?_⟩
  refine kxs_callI T.ox I4 he pu (by show us.length ≤ _; rw [← Paired.length r4, sizeLine_eq]; omega) fun s5 I5 => ?_
  show PySem.wpAt _ _ _ _ _ _ _
  refine wpAt_of_wpAny (wpAny_mono ((pss_one (ps_ost (pe_var hs (.inl (S.par _ (by simp)))) (pe_var hx (.inl (S.par _ (by simp))) hx1 hx2))).run _ _ _ _ { nx := fun _ H' => Q .non H', rt := Q } I5 ?_) (fun fl s' hs => ?_) fun e s' hs => hs)
  · exact ⟨.int i, rfl, .ref a, rfl, a, C, rfl, T.ox, T.no, .inl ⟨he, fun dx n ne => hq dx n ne⟩⟩
  · have fin : ∀ {pins : List (Addr × Obj)} {σ' : L2.St} {H' : Hp} {v : V} {u : Value}, Inv (NdefX.ncx CX P w K mg base [("self" : Str), x, "__class__"] F fI A outer s H4 E) pins σ' H' s' → L2.RelV v u → Q v H' → CE outer P w H4 s Q u s' :=
      fun {pins σ' H' v u} J rv q => ⟨v, H', J.os, J.bare, J.base, J.hok, rv, q⟩
    cases fl with
    | ret u =>
      obtain ⟨v, σ', H', J, rv, q⟩ := hs
      exact fin J rv q
    | next =>
      obtain ⟨σ', H', J, q⟩ := hs
      exact fin (v := V.non) (u := Value.none) J rfl q
    | brk =>
      obtain ⟨_, _, _, q⟩ := hs
      exact False.elim q
    | cont =>
      obtain ⟨_, _, _, q⟩ := hs
      exact False.elim q
end
/-- C(e) -/
def tMkX1 (C : Addr) (fl : Str) (te : TE) : L2.St → Hp → XK → Prop := fun σ H Q => te σ H fun y H1 => ∃ i : Int, [y] = [V.int i] ∧ i.natAbs.log2 < 1920 ∧ ∀ d, H1 d = none → Q (.ref C) (some d) (upd H1 d (.xd [(fl, .int i)]))
/-- the class with its __init__ -/
structure SupX (P : Program) (K : PySem.W.Frag) (mg : Str → Option Value) (C : Addr) (fl : Str) : Prop where
  ex : ∃ (fI cc : Addr) (F : NdefX.NF) (x t : Str) (ar : Arg) (ps : Nat → Pos) (j : Nat), SupC P K C fI F cc fl ∧ NdefX.NScope [("self" : Str), x, "__class__"] [("self" : Str), x] [("__class__" : Str)] F.scope ∧
    F.scope.names.lookup ("super" : Str) = some .globalImplicit ∧ F.scope.names.lookup ("str" : Str) = some .globalImplicit ∧ (F.params.posonlyargs ++ F.params.args).head? = some ar ∧ ar.arg = "self" ∧
    (∀ (kV doc pm : Value) (an : Option Addr) (ct : Value) (us : List Value), us.length = 2 → bindArgs (PySem.W.fnX F.name F.qual F.params F.body F.scope F.cl .none kV doc pm an (.ref F.c) ct) ⟨us, []⟩ = pure ([("self" : Str), x].zip us)) ∧
    (∀ env : Env, eval (.Call (.Attribute (.Call (.Name "super" (ps 0)) [] [] (ps 1)) "__init__" (ps 2)) [.BinOp (.Constant (.str t) j (ps 3)) .Add (.Call (.Name "str" (ps 4)) [.Name x (ps 5)] [] (ps 6)) (ps 7)] [] (ps 8)) env = (do
      let ov ← attributeBase (.Call (.Name "super" (ps 0)) [] [] (ps 1)) "__init__" env (eval (.Call (.Name "super" (ps 0)) [] [] (ps 1)) env)
      standAt (ps 2).atName
      let (f, first) ← holding [ov] (getMethod ov "__init__" (do return (← importBound (.Call (.Name "super" (ps 0)) [] [] (ps 1)) env).getD true))
      callWith (ps 8) f first (backTo (ps 8) (starEach [.BinOp (.Constant (.str t) j (ps 3)) .Add (.Call (.Name "str" (ps 4)) [.Name x (ps 5)] [] (ps 6)) (ps 7)] env)) [])) ∧
    F.body = supBody t fl x ps j ∧ mg "super" = none ∧ mg "str" = none ∧ t.length ≤ 1000 ∧ (x == ("__debug__" : Str)) = false ∧ (x == ("__classdict__" : Str)) = false
theorem pmk_sup {X : Cx} {k : Nat} {C : Addr} {fl y : Str} {e : Expr} {te : TE} {p pos : Pos} (T : SupX X.prog X.K X.mg C fl) (hr : Room (k + 2) X.A) (hg : Gl X y) (hm : X.mg y = some (.ref C)) (he1 : PE X e te)
    (hdb : (y == ("__debug__" : Str)) = false := by decide) (he : starEach [e] X.env = (false, eval e X.env) :: starEach [] X.env := by rfl) (hpl : (backTo pos (starEach [] X.env)).any (·.1) = false := by rfl) :
    PMk X (.Call (.Name y p) [e] [] pos) (tMkX1 C fl te) := by
  intro pins s σ H Q I h
  obtain ⟨fI, cc, F, x, t, ar, ps, j, T, S, gs, gt, hp, har, hb, hev, hbody, m1, m2, ht, hx1, hx2⟩ := T.ex
  obtain ⟨nm, q, N, bs, bm, sn, sub, ab, col, dd, k0, k1, k2, k3, k5, hC, hbm⟩ := T.ox.cls
  refine wpAny_Call_Name_kw (ld_glob I hg hm ?_ hdb)
  refine PySem.W.callWith_K (h₀ := X.base) I.ok.mod.kin T.keep (thn ((pa_cons he1 pa_nil he).run pos pins s σ H (fun vs H1 => ∃ i : Int, vs = [.int i] ∧ i.natAbs.log2 < 1920 ∧ ∀ d, H1 d = none → Q (.ref C) (some d) (upd H1 d (.xd [(fl, .int i)]))) I ?_) fun us s1 ⟨vs, H1, I1, r1, i, ev, hi, q1⟩ => ⟨I1.kIn, ?_⟩) he hpl
  · exact h
  show wpAny _ _ (call (.ref C) us) _ _ _
  subst ev
  cases r1 with
  | @cons _ u0 _ ur ra rw' =>
  cases rw'
  obtain ⟨hp0, g, dr, tk, os⟩ := s1
  have hsz : hp0.objs.size ≤ hp0.objs.size + 1 := Nat.le_succ _
  have hn : H1 (hp0.objs.size + 1) = none := I1.hok.fresh hsz
  have kk : ∀ b o, hp0.get? b = some o → ((hp0.push (PySem.W.kdv_tup [u0])).push (PySem.HandSPX.excO C hp0.objs.size)).get? b = some o := fun b o e => Heap.get?_push_of_some _ (Heap.get?_push_of_some _ e)
  have hget : ((hp0.push (PySem.W.kdv_tup [u0])).push (PySem.HandSPX.excO C hp0.objs.size)).get? (hp0.objs.size + 1) = some (PySem.HandSPX.excO C hp0.objs.size) := by heap_get
  have I2 : Inv X pins σ (upd H1 (hp0.objs.size + 1) (exo (hp0.objs.size + 1) C none)) ⟨(hp0.push (PySem.W.kdv_tup [u0])).push (PySem.HandSPX.excO C hp0.objs.size), g, dr, tk, os⟩ :=
    I1.laid (t' := tk) (a := hp0.objs.size + 1) (o := exo (hp0.objs.size + 1) C none) (h' := (hp0.push (PySem.W.kdv_tup [u0])).push (PySem.HandSPX.excO C hp0.objs.size)) kk hsz (exo_ok hget)
  refine wpAny_call (PySem.HandSPX.call_own PySem.F.excBase_ValueError (fun Y => PySem.HandSPX.refsVE_contains Y bm hbm) (I1.kIn _ _ hC) (PySem.W.looks_findIn I1.kIn T.ini) (fun self => PySem.W.bind_fn I1.kIn self T.ty) (by rw [sizeLine_eq]; simp)
    (codeAny_mono (sup_run (CX := fun _ _ _ _ _ _ => False) (k := k) (E := fun _ _ _ => False) (Q := fun v H2 => v = .non ∧ ∃ d, H1 d = none ∧ d ≠ hp0.objs.size + 1 ∧ H2 = upd (upd (upd H1 (hp0.objs.size + 1) (exo (hp0.objs.size + 1) C none)) d (exd d [(fl, .int i)])) (hp0.objs.size + 1) (exo (hp0.objs.size + 1) C (some d))) T S gs gt hp har hb hev hbody m1 m2 ht hx1 hx2 (hr.make C [u0] []) (I2.env0.make C [u0] []) upd_same hi ra
      fun d n ne => ⟨rfl, d, by rwa [upd_ne ne] at n, ne, rfl⟩) fun r s' hq' => ?_))
  cases r with
  | error er => exact hq'.elim
  | ok fl0 =>
    cases fl0 with
    | ret u =>
      obtain ⟨v, H2, os2, bare2, un2, hok2, rv, ev, d, hd1, ne, eH⟩ := hq'
      subst ev
      obtain ⟨h2, g2, d2, t2, os'⟩ := s'
      refine ⟨rv, mk_end (raises_own T.ox.exC T.ox.tyC) I1 hsz kk un2 hok2 os2 bare2 (by rw [eH, upd_same]) (by rw [eH, upd_ne ne, upd_same]) hd1 ?_⟩
      have e2 : upd (del H2 (hp0.objs.size + 1)) d (.xd [(fl, .int i)]) = upd H1 d (.xd [(fl, .int i)]) := by
        funext b
        by_cases hb : b = d
        · rw [hb, upd_same, upd_same]
        · rw [upd_ne hb, upd_ne hb]
          by_cases ha : b = hp0.objs.size + 1
          · rw [ha, del_same, hn]
          · rw [del_ne ha, eH, upd_ne ha, upd_ne hb, upd_ne ha]
      rw [e2]
      exact q1 d hd1
    | next => exact False.elim hq'
    | brk => exact False.elim hq'
    | cont => exact False.elim hq'
variable [Tabs]
section
variable {X : Cx} {W : WX} {mask : List Bool}
/-- raise C(e) -/
def sRaiseX (C : Addr) (fl : Str) (F : FE) : FS := fun E S => F S (fun m S' => asI m fun i => i.natAbs.log2 < 1920 ∧ E.ex (.ref C, some [(fl, .int i)]) S') E.ex
theorem ds_raiseX {k : Nat} {C : Addr} {fl y : Str} {e : Expr} {F : FE} {p pos pos' : Pos} (hc : X.calm = true) (tk : Takes X W) (T : SupX X.prog X.K X.mg C fl) (hr : Room (k + 2) X.A) (hg : Gl X y) (hm : X.mg y = some (.ref C)) (he1 : DE X W e F)
    (hdb : (y == ("__debug__" : Str)) = false := by decide) (he : starEach [e] X.env = (false, eval e X.env) :: starEach [] X.env := by rfl) (hpl : (backTo pos (starEach [] X.env)).any (·.1) = false := by rfl) :
    DS X W mask (.Raise (some (.Call (.Name y p) [e] [] pos)) none pos') (sRaiseX C fl F) := ⟨ps_le (ps_raise hc tk (pmk_sup T hr hg hm he1.pe hdb he hpl)) fun D σ H h => by
  obtain ⟨G, S, E, l, rs, hF, nx, rt, bk, ct, ex⟩ := h
  refine ⟨G, S, _, _, l, rs, hF, fun m S' v H' l' hm rs' => ?_, fun c fs S' d H' l' hx xo => ex c fs S' d σ H' (Ag.refl σ) l' hx xo⟩
  obtain ⟨i, ev, hi, hx⟩ := RS.asI rs' hm
  subst ev
  refine ⟨i, rfl, hi, fun d hd => ex _ _ S' (some d) σ _ (Ag.refl σ) l' hx ⟨[(fl, .int i)], upd_same, rfl, ?_⟩⟩
  exact (rs'.drop.ext fun a o e => by rw [upd_ne (ne_of_none e hd)]; exact e).data fun O => .int i⟩
/-- e.f, e the caught error in slot i -/
def fXf (i : Nat) (C : Addr) (f : Str) (a : Addr) (d : Option Addr) (cls : Value) : FE := fun S R _ => getK S i (fun m => match m with
  | .v (.exc b dd ns ds) => b = a ∧ d = some dd ∧ cls = .ref C ∧ ∃ x, (ns.zip ds).lookup f = some x ∧ R (.v x) S
  | _ => False) False
theorem look_zip {K : PySem.W.Frag} {H : Hp} {O : List Addr} {f : Str} {x : D} : ∀ {fs : List (Str × V)} {ns : List Str} {ds : List D}, fs.map Prod.fst = ns → RDs K H O (fs.map Prod.snd) ds → (ns.zip ds).lookup f = some x → ∃ v, fs.lookup f = some v ∧ RD K H O v x
  | [], _, _, rfl, .nil, h => nomatch h
  | (g, v) :: fs, _, _, rfl, .cons (d := y) (ds := ys) r rs, h => by
    have h2 : (match f == g with | true => some y | false => ((fs.map Prod.fst).zip ys).lookup f) = some x := h
    show ∃ v', (match f == g with | true => some v | false => fs.lookup f) = some v' ∧ _
    cases q : f == g with
    | true =>
      rw [q] at h2
      cases h2
      exact ⟨v, rfl, r⟩
    | false =>
      rw [q] at h2
      exact look_zip rfl rs h2
theorem de_xf {i : Nat} {a C : Addr} {oe : Obj} {cls : Value} {d : Option Addr} {pn : List (Addr × Obj)} {x n : Str} {p pos : Pos} (T : XfC X.K C) (hno : PySem.W.findIn X.K (.ref C) n = some none) (hz : Zc cls d oe) (hf : ∃ vs, oe.data = .fields vs) (hN : X.N[i]? = some x) (hv : Vis X.env.scope x)
    (hd : (x == ("__debug__" : Str)) = false := by decide) (hcd : (x == ("__classdict__" : Str)) = false := by decide) (hb : attributeBase (.Name x p) n X.env (eval (.Name x p) X.env) = eval (.Name x p) X.env := by rfl) :
    DE (X.suite a ((a, oe) :: pn)) W0 (.Attribute (.Name x p) n pos) (fXf i C n a d cls) := by
  refine ⟨⟨fun pins s σ H Q I h => ?_⟩⟩
  obtain ⟨G, S, R, XR, l, rs, hF, hQ, hX⟩ := h
  unfold fXf at hF
  cases e : S[i]? with
  | none =>
    rw [getK_none e] at hF
    exact hF.elim
  | some m =>
    rw [getK_some e] at hF
    split at hF
    · rename_i b dd ns ds
      obtain ⟨rfl, rfl, rfl, y, hy, hk⟩ := hF
      obtain ⟨x', e2, r1⟩ := rs.copy l e
      obtain ⟨O, n1, rl⟩ := r1
      cases rl with
      | cons hm1 rl =>
      cases hm1 with
      | v hm1 =>
        cases hm1 with
        | exc no e3 e4 hds =>
          obtain ⟨v, hl, hv1⟩ := look_zip e4 hds hy
          refine (pe_xf (pos := pos) T hno hz hf (pe_var hN hv hd hcd) hb).run pins s σ H Q I ⟨_, e2, rfl, rfl, _, _, v, rfl, e3, hl, ?_⟩
          exact hQ _ S _ H l hk ⟨_, n1, .cons (fp := []) (.v hv1) rl⟩
    · exact hF.elim
end
end DM

set_option maxHeartbeats 3000000
/-! The head's facts with own exceptions' __init__: closures and their cells are looked at, too. -/
namespace DM
open PySem PySem.Spec PyProof.Rows
open L2
/-- what is looked at: the cells of the closures, too -/
def asY (g : Addr → Option Obj) (n : Nat) : List Addr := He.asD g n ++ cStatics :: (He.asD g n).flatMap fun a => match g a with
  | some ⟨_, _, .func fd, _⟩ => fd.closure.map Prod.snd
  | _ => []
/-- an exception class's __init__ as the text has it -/
structure XI where
  C : Str
  qual : Str
  st : Stmt
abbrev XiV : Type := Option (Str × Str × Arguments × FuncBody × Scope × Addr × List Str × Value × Addr)
def xiFd (K : PySem.W.Frag) (C : Str) : Option FuncData := match K.lookup (He.ma K (He.ga K C) "__init__") with
  | some ⟨_, _, .func fd, _⟩ => some fd
  | _ => none
def xiO (K : PySem.W.Frag) (C : Str) : XiV := (xiFd K C).map fun fd => (fd.name, fd.qualname, fd.params, fd.body, fd.scope, fd.globals, fd.closure.map Prod.fst, fd.defaults, fd.builtins)
def XI.val (d : XI) : XiV := some ("__init__", d.qual, defArgs d.st, .stmts (defBody d.st), defScope d.st, mainGlobals, ["__class__"], .none, builtinsNs)
structure SaysY (fa : List He.Fa) (fn : List He.DefD) (ts : List He.Tab) (tf : List He.Defn) (ex : PySem.W.Frag → Bool) (xi : List XI) (w : World) (h : Heap) (K : PySem.W.Frag) : Prop where
  x : He.SaysX fa fn ts tf ex w h K
  xi : xi.map (fun d => xiO K d.C) = xi.map XI.val
abbrev AlY : Type := He.AlX × List XiV
def obsY (n : Nat) (fa : List He.Fa) (fn : List He.DefD) (ts : List He.Tab) (tf : List He.Defn) (ex : PySem.W.Frag → Bool) (xi : List XI) (g : Addr → Option Obj) : AlY :=
  ((He.obsT fa fn ts (He.frT g (asY g n)), ex (He.frT g (asY g n)) && He.tabsB g tf (He.frT g (asY g n))), xi.map fun d => xiO (He.frT g (asY g n)) d.C)
def valY (fn : List He.DefD) (ts : List He.Tab) (xi : List XI) (w : World) : AlY := (He.valX fn ts w, xi.map XI.val)
theorem saysY_of {n : Nat} {fa : List He.Fa} {fn : List He.DefD} {ts : List He.Tab} {tf : List He.Defn} {ex : PySem.W.Frag → Bool} {xi : List XI} {w : World} {h : Heap} (e : obsY n fa fn ts tf ex xi h.get? = valY fn ts xi w) : SaysY fa fn ts tf ex xi w h (He.frT h.get? (asY h.get? n)) := by
  have e1 : He.obsT fa fn ts (He.frT h.get? (asY h.get? n)) = He.valT fn ts w := congrArg (fun z : AlY => z.1.1) e
  have e2 : (ex (He.frT h.get? (asY h.get? n)) && He.tabsB h.get? tf (He.frT h.get? (asY h.get? n))) = true := congrArg (fun z : AlY => z.1.2) e
  obtain ⟨h1, h2⟩ := He.ba e2
  have key : ∀ p ∈ tf, PySem.W.codeHdIn (He.frT h.get? (asY h.get? n)) (He.cT (He.frT h.get? (asY h.get? n)) p).1 (He.cT (He.frT h.get? (asY h.get? n)) p).2 = true ∧ ∃ o, h.get? (He.cT (He.frT h.get? (asY h.get? n)) p).2 = some o ∧ He.emptyTab o = true := fun p hp => by
    obtain ⟨h3, h4⟩ := He.ba (List.all_eq_true.mp h2 p hp)
    refine ⟨h3, ?_⟩
    cases q : h.get? (He.cT (He.frT h.get? (asY h.get? n)) p).2 with
    | none =>
      rw [q] at h4
      cases h4
    | some o =>
      rw [q] at h4
      exact ⟨o, rfl, h4⟩
  exact ⟨⟨e1, h1, fun p hp => (key p hp).1, fun p hp => by
    obtain ⟨_, o, q, z⟩ := key p hp
    exact He.frT_none q z, fun p hp => by
    obtain ⟨_, o, q, z⟩ := key p hp
    rw [q, He.emptyTab_eq z]⟩, congrArg (fun z : AlY => z.2) e⟩
def hookY (n : Nat) (fa : List He.Fa) (fn : List He.DefD) (ts : List He.Tab) (tf : List He.Defn) (ex : PySem.W.Frag → Bool) (xi : List XI) : PySem.W.Hook where
  α := AlY
  obs := fun s => obsY n fa fn ts tf ex xi s.heap.get?
  val := fun w => valY fn ts xi w
  says := fun w h => ∃ K : PySem.W.Frag, K.In h ∧ SaysY fa fn ts tf ex xi w h K
  of := fun _ _ e => ⟨_, He.frT_in, saysY_of e⟩
  keeps := fun _ _ _ ⟨K, hK, c⟩ k => ⟨K, PySem.W.Frag.In.keeps hK k, ⟨⟨c.x.t, c.x.more, c.x.hd, c.x.out, fun p hp => k _ _ (c.x.empty p hp)⟩, c.xi⟩⟩
theorem obsY_eq {n : Nat} {fa : List He.Fa} {fn : List He.DefD} {ts : List He.Tab} {tf : List He.Defn} {ex : PySem.W.Frag → Bool} {xi : List XI} {g : Addr → Option Obj} {s : Shared} (h : ∀ a, g a = s.heap.get? a) : obsY n fa fn ts tf ex xi g = (hookY n fa fn ts tf ex xi).obs s := by
  have e : g = s.heap.get? := funext h
  rw [e] <;> rfl
theorem SaysY.at_ {fa : List He.Fa} {fn : List He.DefD} {ts : List He.Tab} {tf : List He.Defn} {ex : PySem.W.Frag → Bool} {xi : List XI} {w : World} {h : Heap} {K : PySem.W.Frag} (c : SaysY fa fn ts tf ex xi w h K) (i : Nat) {d : XI} (hd : xi[i]? = some d) : xiO K d.C = d.val := by
  have e2 : (xi.map fun d => xiO K d.C)[i]? = (xi.map XI.val)[i]? := by rw [c.xi]
  rw [List.getElem?_map, List.getElem?_map, hd] at e2
  exact Option.some.inj e2
/-! ### the class -/
def oexB (K : PySem.W.Frag) (C : Addr) : Bool := match K.lookup C with
  | some ⟨.type t, _, .cls cd, sl⟩ => (match cd.mro, sl.toList with
    | .ref c :: bm, [_, _, _, _, some (.builtin n), _] => decide (t = "type") && (decide (c = C) && (PySem.HandSPX.refsVE bm && (cd.hasDict && (!cd.hasDel && decide (n = "ValueError.__new__")))))
    | _, _ => false)
  | _ => false
theorem oexB_ok {K : PySem.W.Frag} {C : Addr} (h : oexB K C = true) : ∃ nm q N bs bm sn sub ab col dd k0 k1 k2 k3 k5, K.lookup C = some (excClassObj nm q C N bs bm true sn sub ab col dd k0 k1 k2 k3 k5 "ValueError.__new__") ∧ PySem.HandSPX.refsVE bm = true := by
  unfold oexB at h
  split at h
  · rename_i t dd cd sl ho
    split at h
    · rename_i c bm k0 k1 k2 k3 n k5 hm hs
      obtain ⟨h1, h⟩ := He.ba h
      obtain ⟨h2, h⟩ := He.ba h
      obtain ⟨h3, h⟩ := He.ba h
      obtain ⟨h4, h⟩ := He.ba h
      obtain ⟨h5, h6⟩ := He.ba h
      have e1 := of_decide_eq_true h1
      have e2 := of_decide_eq_true h2
      have e6 := of_decide_eq_true h6
      subst e1 e2 e6
      obtain ⟨nm, bs, mro, ns, qn, hd, sn, sb, ab, col, del⟩ := cd
      dsimp only at hm h4 h5
      subst hm h4
      rw [Bool.not_eq_true'] at h5
      subst h5
      refine ⟨nm, qn, ns, bs, bm, sn, sb, ab, col, dd, k0, k1, k2, k3, k5, ?_, h3⟩
      rw [ho]
      have e : sl = #[k0, k1, k2, k3, some (.builtin "ValueError.__new__"), k5] := by
        rw [← hs] <;> simp
      rw [e]
    · cases h
  · cases h
def fileB (K : PySem.W.Frag) (c : Addr) (file : Str) : Bool := match K.lookup c with
  | some ⟨_, _, .fields vs, _⟩ => (match (vs[2]? : Option Value) with
    | some (.str f _) => decide (f = file)
    | _ => false)
  | _ => false
theorem fileB_ok {K : PySem.W.Frag} {c : Addr} {file : Str} (h : fileB K c file = true) : ∃ oc od vs osl tf, K.lookup c = some ⟨oc, od, .fields vs, osl⟩ ∧ vs[2]? = some (.str file tf) := by
  unfold fileB at h
  split at h
  · rename_i oc od vs osl ho
    split at h
    · rename_i f tf hv
      have e := of_decide_eq_true h
      subst e
      exact ⟨oc, od, vs, osl, tf, ho, hv⟩
    · cases h
  · cases h
def cellB (K : PySem.W.Frag) (c C : Addr) : Bool := match K.lookup c with
  | some ⟨_, _, .cell (some (.ref d)), _⟩ => decide (d = C)
  | _ => false
theorem cellB_ok {K : PySem.W.Frag} {c C : Addr} (h : cellB K c C = true) : ∃ cl cld csl, K.lookup c = some ⟨cl, cld, .cell (some (.ref C)), csl⟩ := by
  unfold cellB at h
  split at h
  · rename_i oc od d osl ho
    have e := of_decide_eq_true h
    subst e
    exact ⟨oc, od, osl, ho⟩
  · cases h
def xiCell (K : PySem.W.Frag) (C : Str) : Addr := match xiFd K C with
  | some fd => (match fd.closure with
    | [p] => p.2
    | _ => 0)
  | none => 0
def xiCode (K : PySem.W.Frag) (C : Str) : Addr := match xiFd K C with
  | some fd => (match fd.code with
    | .ref c => c
    | _ => 0)
  | none => 0
def xiRef (K : PySem.W.Frag) (C : Str) : Bool := match xiFd K C with
  | some fd => (match fd.code with
    | .ref _ => true
    | _ => false)
  | none => false
def supB (K : PySem.W.Frag) (file C qual fl : Str) : Bool :=
  oexB K (He.ga K C) && (He.eqO (PySem.W.findIn K (.ref (He.ga K C)) "__setattr__") (some (some (.builtin "object.__setattr__"))) && (decide (PySem.W.subIn K (.ref (He.ga K C)) (.type "BaseException") = some true) && (decide (PySem.W.typeIn K (.ref (He.ga K C)) = some (.type "type")) &&
  (PySem.W.keepIn K (.ref (He.ga K C)) && (He.eqO (PySem.W.findIn K (.ref (He.ga K C)) fl) (some none) && (He.eqO (PySem.W.findIn K (.ref (He.ga K C)) "__init__") (some (some (.ref (He.ma K (He.ga K C) "__init__")))) && (decide (PySem.W.typeIn K (.ref (He.ma K (He.ga K C) "__init__")) = some (.type "function")) &&
  (xiRef K C && (PySem.W.codeIn K (.ref (xiCode K C)) qual && (fileB K (xiCode K C) file && (cellB K (xiCell K C) (He.ga K C) && (He.eqO (PySem.W.nsIn K cStatics "thirdparty.any") (some none) && (He.eqO (PySem.W.ks_superIn K (He.ga K C) (He.ga K C) "__init__") (some (some (.builtin "ValueError.__init__"))) &&
  decide (PySem.W.subIn K (.ref (He.ga K C)) (.type "ValueError") = some true))))))))))))))
/-- the function as the nested defs' rules have it -/
def xiN (K : PySem.W.Frag) (d : XI) : NdefX.NF := ⟨"__init__", d.qual, defArgs d.st, defBody d.st, defScope d.st, [(("__class__" : Str), xiCell K d.C)], xiCode K d.C⟩
theorem supC_ok {P : Program} {K : PySem.W.Frag} {d : XI} {fl : Str} (h : supB K P.main.file d.C d.qual fl = true) (o : xiO K d.C = d.val) (top : (P.main.scope.names.lookup ("super" : Str)).isSome = false) :
    SupC P K (He.ga K d.C) (He.ma K (He.ga K d.C) "__init__") (xiN K d) (xiCell K d.C) fl := by
  unfold supB at h
  obtain ⟨h1, h⟩ := He.ba h
  obtain ⟨h2, h⟩ := He.ba h
  obtain ⟨h3, h⟩ := He.ba h
  obtain ⟨h4, h⟩ := He.ba h
  obtain ⟨h5, h⟩ := He.ba h
  obtain ⟨h6, h⟩ := He.ba h
  obtain ⟨h7, h⟩ := He.ba h
  obtain ⟨h8, h⟩ := He.ba h
  obtain ⟨h9, h⟩ := He.ba h
  obtain ⟨h10, h⟩ := He.ba h
  obtain ⟨h11, h⟩ := He.ba h
  obtain ⟨h12, h⟩ := He.ba h
  obtain ⟨h13, h⟩ := He.ba h
  obtain ⟨h14, h15⟩ := He.ba h
  refine ⟨⟨oexB_ok h1, He.eqO_ok h2, of_decide_eq_true h3, of_decide_eq_true h4, h5⟩, He.eqO_ok h6, He.eqO_ok h7, of_decide_eq_true h8, ?_, h10, fileB_ok h11, rfl, cellB_ok h12, He.eqO_ok h13, He.eqO_ok h14, of_decide_eq_true h15, h5, top⟩
  have hx : ∃ oc od fd osl, K.lookup (He.ma K (He.ga K d.C) "__init__") = some ⟨oc, od, .func fd, osl⟩ ∧ xiFd K d.C = some fd := by
    unfold xiO XI.val at o
    cases q : xiFd K d.C with
    | none =>
      rw [q] at o
      cases o
    | some fd =>
      have q2 := q
      unfold xiFd at q2
      split at q2
      · rename_i oc od fd' osl ho
        cases q2
        exact ⟨oc, od, fd, osl, ho, rfl⟩
      · cases q2
  obtain ⟨oc, od, fd, osl, ho, q⟩ := hx
  have o2 := o
  unfold xiO XI.val at o2
  rw [q] at o2
  have h9' := h9
  unfold xiRef at h9'
  rw [q] at h9'
  have ec : xiCode K d.C = (match fd.code with | .ref c => c | _ => 0) := by
    unfold xiCode
    rw [q]
  have el : xiCell K d.C = (match fd.closure with | [p] => p.2 | _ => 0) := by
    unfold xiCell
    rw [q]
  obtain ⟨n1, n2, n3, n4, n5, n6, n7, n8, n9, n10, n11, n12, n13, n14, n15⟩ := fd
  simp only [Option.map_some, Option.some.injEq, Prod.mk.injEq] at o2
  obtain ⟨e1, e2, e3, e4, e5, e6, e7, e8, e9⟩ := o2
  dsimp only at h9' ec el
  refine ⟨oc, od, osl, n9, n10, n11, n12, n14, ?_⟩
  rw [ho]
  unfold xiN
  split at h9'
  · rename_i c
    have ec : xiCode K d.C = c := ec
    rw [ec]
    match n7, e7, el with
    | [(a, b)], e7, el =>
      have ea : a = "__class__" := by
        simp at e7
        exact e7
      have el : xiCell K d.C = b := el
      rw [el, ea]
      subst e1 e2 e3 e4 e5 e6 e8 e9
      rfl
    | [], e7, _ => simp at e7
    | _ :: _ :: _, e7, _ => simp at e7
  · cases h9'
/-- the positions in the body -/
def supPs (b : List Stmt) : List Pos × Nat := match b with
  | [.Expr (.Call (.Attribute (.Call (.Name _ p0) [] [] p1) _ p2) [.BinOp (.Constant _ j p3) _ (.Call (.Name _ p4) [.Name _ p5] [] p6) p7] [] p8) p9, .Assign [.Attribute (.Name _ p10) _ p11] (.Name _ p12) p13] => ([p0, p1, p2, p3, p4, p5, p6, p7, p8, p9, p10, p11, p12, p13], j)
  | _ => ([], 0)
end DM

/-! f(e, .., k = v): the last parameter, keyword-only, by its name. -/
namespace DM
open PySem PySem.Spec PyProof.Rows
open L2
variable [Tabs]
section
variable {X : Cx} {W : WX} {CX : CXT} {k n : Nat} {f : Addr} {fd : FuncData} {ps ks : List Str} {sp : Sp} {x : Str} {p pos : Pos} {e : Expr} {es : List Expr} {kws : List Keyword} {t tk : TA} {g : List Value → List Value → List Value} {gV : List V → List V → List V}
theorem run_fnKE {pins : List (Addr × Obj)} {σ : L2.St} {H : Hp} {s : Shared} {Q : VK} {E : XK} {us ws : List Value} {vs zs : List V} (F : FnOk X.prog X.w X.K X.mg X.base CX k f fd ps sp) (hr : Room k X.A) (hb : KBn X.K fd ps n ks g gV) (hx : PassesAt CX X σ E)
    (I : Inv X pins σ H s) (r : Vals vs us) (rz : Vals zs ws) (l1 : vs.length = n) (l2 : zs.length = ks.length) (h : sp (gV vs zs) H Q E) : wpAny (model X.prog X.w) X.A (call (.ref f) us (ks.zip ws)) (EP X pins σ Q) X.xe s := by
  have r2 := hb.rel r rz
  refine wpAny_call (codeAny_mono (F.run X.A X.stack s H ⟨us, ks.zip ws⟩ (g us ws) (gV vs zs) Q E hr I.env0 (hb.to s us ws I.kIn (r.length.symm.trans l1) (rz.length.symm.trans l2)) r2 h) fun r s' hq => ?_)
  cases r with
  | error e => exact hx pins H s e s' I hq
  | ok fl =>
    cases fl with
    | ret u => exact I.after hq
    | next => exact False.elim hq
    | brk => exact False.elim hq
    | cont => exact False.elim hq
def tCallKE (n m : Nat) (sp : Sp) (gV : List V → List V → List V) (E : L2.St → XK) (t tk : TA) : TE := fun σ H Q => t σ H fun vs H1 => tk σ H1 fun zs H2 => vs.length = n ∧ zs.length = m ∧ sp (gV vs zs) H2 Q (E σ)
theorem pe_callKE {E : L2.St → XK} (F : FnOk X.prog X.w X.K X.mg X.base CX k f fd ps sp) (hr : Room k X.A) (hg : Gl X x) (hm : X.mg x = some (.ref f)) (hk : PySem.W.keepIn X.K (.ref f) = true) (hb : KBn X.K fd ps n ks g gV) (hx : ∀ σ, PassesAt CX X σ (E σ))
    (ha : PA X (e :: es) t) (hkw : PK X kws tk) (hdb : (x == ("__debug__" : Str)) = false) (hall : (backToKw pos (keywordEach kws X.env)).all (·.1.isSome) = true) (hks : (backToKw pos (keywordEach kws X.env)).filterMap (·.1) = ks)
    (he : starEach (e :: es) X.env = (false, eval e X.env) :: starEach es X.env) (hpl : ((backTo pos (starEach (e :: es) X.env)).any (·.1) || (backToKw pos (keywordEach kws X.env)).any (·.1.isNone)) = false) :
    PE X (.Call (.Name x p) (e :: es) kws pos) (tCallKE n ks.length sp gV E t tk) := by
  refine ⟨fun pins s σ H Q I h => ?_⟩
  refine wpAny_Call_Name_kw (ld_glob I hg hm ?_ hdb)
  refine PySem.W.callWith_KW (h₀ := X.base) I.ok.mod.kin hk hall (thn (ha.run pos pins s σ H _ I h) fun us s1 ⟨vs, H1, I1, r, q⟩ => ?_) hpl he
  refine thn (hkw.run pos pins s1 σ H1 _ I1 q) fun ws s2 ⟨zs, H2, I2, rz, l1, l2, q2⟩ => ⟨I2.kIn, ?_⟩
  rw [hks]
  exact run_fnKE F hr hb (hx σ) I2 r rz l1 l2 q2
def osSnoc (fs : FOs) (fk : FO) : FOs := fun S R XR => fs S (fun as S1 => fk S1 (fun a S2 => R (as ++ [a]) S2) XR) XR
theorem len_arsOk {σ : L2.St} : ∀ {as : List Ar} {vs : List V}, ArsOk σ as vs → vs.length = as.length
  | [], [], _ => rfl
  | [], _ :: _, h => h.elim
  | _ :: _, [], h => h.elim
  | _ :: _, _ :: _, h => congrArg Nat.succ (len_arsOk h.2)
theorem xok_dropL {K : PySem.W.Frag} {H : Hp} {d : Option Addr} {fs : Option (List (Str × D))} {L1 L : List Pr} (h : XOk K H d fs (L1 ++ L)) : XOk K H d fs L := h.imp fun L2 r => RS.dropL (L1 := L1) (RS.rot r)
theorem de_callKw {m : FM} {fs F' : FOs} {fk : FO} {nm : Str} {ek : Expr} {kp : Pos} {j : Nat} (F : FnOk X.prog X.w X.K X.mg X.base (L2.CX X.prog X.w) k f fd ps (spOf X.K n m)) (tk : Takes X W) (hr : Room k X.A) (hg : Gl X x) (hm : X.mg x = some (.ref f))
    (hk : PySem.W.keepIn X.K (.ref f) = true) (hb : ∃ mv : List Value, KBn X.K fd ps j [nm] (fun us ws => us ++ ws) (fun vs zs => vs ++ zs)) (hn : n = j + 1) (ha : DOs X W (e :: es) fs) (hv : DO X W ek fk) (hF : F' = osSnoc fs fk) (hdb : (x == ("__debug__" : Str)) = false := by decide)
    (hall : (backToKw pos (keywordEach [⟨some nm, ek, kp⟩] X.env)).all (·.1.isSome) = true := by rfl) (hks : (backToKw pos (keywordEach [⟨some nm, ek, kp⟩] X.env)).filterMap (·.1) = [nm] := by rfl)
    (he : starEach (e :: es) X.env = (false, eval e X.env) :: starEach es X.env := by rfl) (hpl : ((backTo pos (starEach (e :: es) X.env)).any (·.1) || (backToKw pos (keywordEach [⟨some nm, ek, kp⟩] X.env)).any (·.1.isNone)) = false := by rfl) :
    DE X W (.Call (.Name x p) (e :: es) [⟨some nm, ek, kp⟩] pos) (fCall m n F') := by
  subst hF
  obtain ⟨mv, hb⟩ := hb
  refine ⟨pe_le (pe_callKE F hr hg hm hk hb (fun σ => passAt tk σ) ha.pa (pk_cons hv.pe pk_nil) hdb hall hks he hpl) fun σ H Q h => ?_⟩
  obtain ⟨G, S, R, XR, l, rs, hF, hQ, hX⟩ := h
  refine ⟨G, S, _, XR, l, rs, hF, fun as S1 vs H1 l1 h1 ok1 rs1 => ?_, hX⟩
  refine ⟨(vs.map some).zip (as.map arM) ++ G, S1, _, XR, l1, by rw [List.append_assoc]; exact rs1, h1, fun a S2 v H2 l2 h2 ok2 rs2 => ?_, fun c fs S' d H' l' hx xo => hX c fs S' d H' l' hx (by rw [List.append_assoc] at xo; exact xok_dropL xo)⟩
  have h2 := h2.ok
  have la := len_arsOk ok1
  have hl := Nat.eq_of_beq_eq_true h2.1
  rw [List.length_append, List.length_singleton, hn] at hl
  have e1 : ((vs ++ [v]).map some).zip ((as ++ [a]).map arM) = (vs.map some).zip (as.map arM) ++ [(some v, arM a)] := by
    rw [List.map_append, List.map_append, List.zip_append (by rw [List.length_map, List.length_map]; exact la)]
    rfl
  have rs3 : RS X.K H2 (((vs ++ [v]).map some).zip ((as ++ [a]).map arM) ++ (G ++ σ.zip S2)) := by
    rw [e1, List.append_assoc]
    rw [List.append_assoc] at rs2
    exact RS.perm (perm_mid _ _ _).symm rs2
  have q := spOf_of (W := W) l2 (arsOk_snoc (a := a) (v := v) ok1 ok2) rs3 h2.2 hQ hX
  rw [List.length_append, List.length_singleton, show as.length + 1 = n by omega] at q
  exact ⟨by omega, rfl, q⟩
end
end DM

set_option maxHeartbeats 3000000
/-! isinstance(e, C), e a caught error that has fields. -/
namespace PySem.W
open PySem PySem.Calls PyProof.Rows
section
variable {prog : Program} {w : World} {A : Around} {E : Value → Shared → Prop} {s : Shared} {K : Frag} {x D : Addr} {ox od : Obj}
theorem dm_findData {C : Addr} {name : Str} {a g : Value} (hc : (clsIn K C).isSome = true) (ha : findIn K (.ref C) name = some (some a)) (hg : specialIn K a "__get__" = some (some g)) (ht : takesIn K a = some true) : findObj K C (some od) name = some (.bind g a) := by
  obtain ⟨cd, hc⟩ := Option.isSome_iff_exists.mp hc
  unfold findObj
  rw [hc, Option.bind_some, ha, Option.bind_some]
  simp [hg, ht]
theorem dm_classE {Q : Option Value → Shared → Prop} (C : L2.ExcC K D) (X : K.In s.heap) (I : InstAt s.heap x ox D (some od)) (h : Q (some (.ref D)) { s with toks := s.toks + 1 }) : wpAny (model prog w) A (getAttr? (.ref x) "__class__") Q E s := by
  have hf : findObj K D (some od) "__class__" = some (.bind (.builtin "getset_descriptor.__get__") (.builtin "object.__class__")) := dm_findData (by obtain ⟨cd, hc, _⟩ := any_some C.hd; rw [hc]; rfl) C.ha C.hn C.ht
  obtain ⟨hp, g, d, t, os⟩ := s
  have L0 := I.type (M := model prog w)
  have L1 := looks_findIn (M := model prog w) X C.hg
  have L2 := looks_findIn (M := model prog w) X C.hk
  have L3 := looks_find (M := model prog w) X I hf
  have sub : Looks (model prog w) hp (isInstance (.ref x) (.type "BaseException")) true := L0.andThen (looks_subIn X C.hs)
  have x0 : (false && onTheHeap (Value.builtin "BaseException.__getattribute__")) = false := rfl
  have x1 : (onTheHeap (Value.ref D) && Value.builtin "BaseException.__getattribute__" == Value.builtin "object.__getattribute__") = false := by
    rw [show (Value.builtin "BaseException.__getattribute__" == Value.builtin "object.__getattribute__") = false by decide +kernel]
    rfl
  unfold getAttr? getAttrBy? getAttrBy
  refine wpAny_bind (wpAny_mkText (wpAny_bind (wpAny_attempt (wpAny_holding (wpAny_bind (L0.at (wpAny_bind (L1.at ?_))))))))
  show wpAny _ _ (if (onTheHeap (Value.ref D) && Value.builtin "BaseException.__getattribute__" == Value.builtin "object.__getattribute__") = true then _ else _) _ _ _
  rw [x1, if_neg Bool.false_ne_true]
  unfold getAttrByItsOwn hookBefore
  refine wpAny_bind ?_
  rw [if_pos (show onTheHeap (Value.ref D) = true from rfl)]
  refine L2.at (wpAny_bind (wpAny_attempt (wpAny_holding ?_)))
  unfold callGetattribute
  rw [x0, if_neg Bool.false_ne_true]
  unfold boundAndCalled
  rw [PySem.F.excAttr_ValueError.ga.bind (.ref x)]
  refine wpAny_bind (wpAny_pure ?_)
  show wpAny _ _ (call (.builtin "BaseException.__getattribute__") [.ref x, .str "__class__" t]) _ _ _
  refine wpAny_call (codeAny_call_builtin PySem.F.excAttr_ValueError.ga.plain PySem.F.entry_bexc_ga ?_)
  refine @check_slot (model prog w) _ _ ⟨hp, g, d, t + 1, os⟩ "BaseException.__getattribute__" "BaseException" "__getattribute__" (.ref x) [.str "__class__" t] [] _ (by decide +kernel) (by decide +kernel) sub (PySem.F.args_bexc_ga (.ref x) (.str "__class__" t)) ?_
  unfold Builtin.«object.__getattribute__»
  refine wpAny_bind (wpAny_of_eq (a := ((Value.ref x : Value), [Value.str "__class__" t])) (by first | rfl | (simp only [slotArgs]; rfl)) ?_)
  refine wpAny_bind (wpAny_pure (wpAny_bind (L0.at (wpAny_bind (L3.at ?_)))))
  show wpAny _ _ (holding [Value.builtin "object.__class__"] (call (.builtin "getset_descriptor.__get__") [.builtin "object.__class__", .ref x, .ref D]) >>= ret) _ _ _
  refine wpAny_bind (wpAny_holding (wpAny_call (class_get (s := ⟨hp, g, d, t + 1, os⟩) (ox := ox) (od := some od) X I C.hm ?_)))
  refine wpAny_pure ?_
  show wpAny _ _ (handedOut (.ref D)) _ _ _
  rw [handedOut_of (v := .ref D) rfl]
  first
    | exact wpAny_pure (wpAny_pure h)
    | exact wpAny_pure h
    | exact wpAny_pure (wpAny_bind (wpAny_pure (wpAny_pure h)))
theorem dm_kitx (C : L2.ExcC K D) : KitX K (.ref x) (.ref D) (fun h => InstAt h x ox D (some od)) where
  ty := fun _ _ _ I => I.type
  it := fun _ _ X _ => by
    obtain ⟨cdD, hcD, _⟩ := any_some C.hd
    unfold clsIn at hcD
    split at hcD
    · rename_i c' d' cd' sl' ho
      intro A' Q' E' s' k q
      unfold isType loadHead
      exact wpAny_bind (wpAny_loadPart (k _ _ (X _ _ ho)) (wpAny_pure q))
    · cases hcD
  ne := fun h tp dd its n sl X htp => by
    obtain ⟨cdD, hcD, _⟩ := any_some C.hd
    refine Bool.eq_false_iff.mpr fun q => ?_
    have e : D = tp := Value.ref.inj (beq_iff_eq.mp q)
    subst e
    unfold clsIn at hcD
    split at hcD
    · rename_i c' d' cd' sl' ho
      have z := (X _ _ ho).symm.trans htp
      cases z
    · cases hcD
  ca := fun X I k => dm_classE C X I k
end
end PySem.W
namespace DM
open PySem PySem.Spec PyProof.Rows
open L2
variable [Tabs]
section
variable {X : Cx}
/-- isinstance(e, c): e has fields -/
def rIsD (K : PySem.W.Frag) (D a dd : Addr) : List V → Hp → VK → Prop := fun xs H Q => ∃ (c : V) (cv : Value) (b : Bool) (fs : List (Str × V)), xs = [.ref a, c] ∧ (∀ u, RelV c u → u = cv) ∧ H dd = some (.xd fs) ∧ PySem.W.kitOne K (.ref D) cv = some b ∧ Q (.bl b) H
theorem call_isD {a D dd : Addr} {oe : Obj} {pn : List (Addr × Obj)} (C : ExcC X.K D) (hz : Zc (.ref D) (some dd) oe) (hf : ∃ vs, oe.data = .fields vs) : CallR (X.suite a ((a, oe) :: pn)) (.builtin "isinstance") (rIsD X.K D a dd) := by
  intro pins s σ H xs us Q I r h
  obtain ⟨c, cv, b, fs, rfl, hcv, hd, e, q⟩ := h
  cases r with
  | cons rx rr =>
    cases rr with
    | cons rt rr =>
      cases rr
      cases rx
      have ec := hcv _ rt
      subst ec
      obtain ⟨hget, _⟩ := I.pin (a, oe) (List.mem_append.mpr (.inl List.mem_cons_self))
      obtain ⟨vs, hv⟩ := hf
      obtain ⟨mA, hns, _⟩ := (show ObjOk X.prog X.w H s.heap dd (.xd fs) from I.hok dd _ hd)
      obtain ⟨od, ho, _⟩ := lookIn_ns hns
      have J : PySem.W.InstAt s.heap a oe D (some od) := ⟨hget, hz.1, by unfold PySem.W.notCls; rw [hv] <;> rfl, by rw [hz.2]; exact ho⟩
      exact PySem.W.kia_one (PySem.W.dm_kitx C) I.kIn J e (fun z => nomatch z) fun tk => ⟨.bl b, H, I.kept (t' := tk) fun _ _ z => z, rfl, q⟩
def fIsXd (i : Nat) (t : List (Value × Bool)) (a : Addr) (d : Option Addr) (cls : Value) : FE := fun S R _ => getK S i (fun m => (∃ dd ns ds, m = .v (.exc a dd ns ds) ∧ d = some dd) ∧ exK t cls fun b => R (.v (.bl b)) S) False
theorem de_isXd {i : Nat} {t : List (Value × Bool)} {a C : Addr} {oe : Obj} {cls : Value} {d : Option Addr} {pn : List (Addr × Obj)} {x y : Str} {p p1 p2 pos : Pos} (hz : Zc cls d oe) (hf : ∃ vs, oe.data = .fields vs)
    (ht : ∀ q ∈ t, ∃ D, q.1 = .ref D ∧ ExcC X.K D ∧ PySem.W.kitOne X.K (.ref D) (.ref C) = some q.2) (hN : X.N[i]? = some x) (hv : Vis X.env.scope x) (hg : Gl X "isinstance") (hm : X.mg "isinstance" = none) (hgy : Gl X y) (hmy : X.mg y = some (.ref C))
    (hd : (x == ("__debug__" : Str)) = false := by decide) (hcd : (x == ("__classdict__" : Str)) = false := by decide) (hdy : (y == ("__debug__" : Str)) = false := by decide) (hb : bootBuiltins "isinstance" = some (.builtin "isinstance") := by decide +kernel)
    (he : starEach [.Name x p1, .Name y p2] X.env = (false, eval (.Name x p1) X.env) :: starEach [.Name y p2] X.env := by rfl) (hpl : (backTo pos (starEach [.Name y p2] X.env)).any (·.1) = false := by rfl) (he2 : starEach [.Name y p2] X.env = (false, eval (.Name y p2) X.env) :: starEach [] X.env := by rfl) :
    DE (X.suite a ((a, oe) :: pn)) W0 (.Call (.Name "isinstance" p) [.Name x p1, .Name y p2] [] pos) (fIsXd i t a d cls) := by
  refine ⟨⟨fun pins s σ H Q I h => ?_⟩⟩
  obtain ⟨G, S, R, XR, l, rs, hF, hQ, hX⟩ := h
  unfold fIsXd at hF
  cases e : S[i]? with
  | none =>
    rw [getK_none e] at hF
    exact hF.elim
  | some m =>
    rw [getK_some e] at hF
    obtain ⟨⟨dd, ns, ds, rfl, rfl⟩, hk⟩ := hF
    obtain ⟨q, hq, ec0, hk2⟩ := exK_mem hk
    subst ec0
    obtain ⟨D, e1, ec, ek⟩ := ht q hq
    rw [e1] at hz
    obtain ⟨x', e2, r1⟩ := rs.copy l e
    obtain ⟨O, f1, n, hm1, _⟩ := RS.one r1
    cases hm1 with
    | v hm1 =>
      cases hm1 with
      | exc no e3 e4 hds =>
      have pe := pe_callB (p := p) (X := X.suite a ((a, oe) :: pn)) (call_isD ec hz hf) hg hm hb (pa_cons (pe_var hN hv hd hcd) (pa_cons (C8.pe_gc (v := .ref C) hgy ⟨_, hmy, rfl⟩ hdy) pa_nil he2) he) (by decide) (by decide) he hpl
      exact pe.run pins s σ H Q I ⟨_, e2, _, _, _, _, rfl, fun u z => z, e3, ek, hQ _ S _ H l hk2 (rs.bl _)⟩
end
end DM

set_option maxHeartbeats 3000000
/-! A def called while an exception is handled: one that neither raises nor loops. -/
namespace DM
open PySem PySem.Spec PyProof.Rows
open L2
abbrev cxNo : CXT := fun _ _ _ _ _ _ => False
structure HotU (A : Around) : Prop where
  units : A.units + 64 < cLine
structure FnQ (P : Program) (w : World) (K : PySem.W.Frag) (mg : Str → Option Value) (base : Heap) (k : Nat) (f : Addr) (fd : FuncData) (ps : List Str) (sp : Sp) : Prop where
  len : ∀ vs H Q E, sp vs H Q E → vs.length = ps.length
  run : ∀ (A : Around) (outer : List Env) (s : Shared) (H : Hp) (args : Args) (us : List Value) (vs : List V) (Q : VK) (E : XK) (p : Addr × Obj), L2H.RoomH k A → L2H.PinOk outer H s p → Env0 P w K mg base A outer s H → BindsTo s fd args (ps.zip us) → Vals vs us → sp vs H Q E →
    codeAny (model P w) A (.call (.ref f) args) (CR cxNo outer P w H s Q E) s
theorem fn_ofQ {P : Program} {w : World} {K : PySem.W.Frag} {mg : Str → Option Value} {base : Heap} {k : Nat} {f : Addr} {name qual : Str} {params : Arguments} {body : List Stmt} {scope : Scope} {dV kV doc pm cdv ct oc : Value} {an od : Option Addr}
    {osl : Array (Option Value)} {N ps : List Str} {sp : Sp} (lk : K.lookup f = some ⟨oc, od, .func (PySem.W.fnOf name qual params body scope dV kV doc pm an cdv ct), osl⟩) (hcd : PySem.W.codeIn K cdv qual = true) (S : FnScope N ps scope)
    (len : ∀ vs H Q E, sp vs H Q E → vs.length = ps.length)
    (hbody : ∀ (A : Around) (outer : List Env) (s : Shared) (H : Hp) (vs : List V) (Q : VK) (E : XK) (p : Addr × Obj), L2H.RoomH k (A.deeper (envOfC qual scope s.heap.objs.size f cdv)) → sp vs H Q E →
      ∃ t, PSs (L2H.cxH cxNo P w K mg base N qual scope f cdv A outer s H E p) body t ∧ t { nx := fun _ H' => Q .non H', rt := Q } (L2.start N vs) H) :
    FnQ P w K mg base (k + 1) f (PySem.W.fnOf name qual params body scope dV kV doc pm an cdv ct) ps sp := by
  refine ⟨len, fun A outer s H args us vs Q E p hr hpin e0 hb r hsp => ?_⟩
  have KX : K.In s.heap := e0.mod.kin.keeps fun b o e => (e0.bs b o e).1
  refine codeAny_call_function hr.depth (KX _ _ lk) rfl S.co S.gen rfl (PySem.W.codeRec_of KX hcd) (hb _ _ _ _ (wpAny_newFunctionEnv_cells S.kind (fun ⟨n, v⟩ hy => ?_) fun env he s1 x => ?_))
  · exact (S.par n (List.of_mem_zip hy).1).elim .inl fun q => .inr ⟨q, PySem.W.cellsFrom_some _ _ _ (.inl q)⟩
  subst he
  refine ⟨(e0.mod.nolimit.keeps fun b o e => (e0.bs b o e).1).keeps x.toInCall.keep, codeAny_func ?_⟩
  obtain ⟨t, ht, hq⟩ := hbody A outer s H vs Q E p (hr.deeper _) hsp
  refine wpAny_mono (ht.run [] s1 (L2.start N vs) H _ (L2H.inv_startH S hpin e0 (len _ _ _ _ hsp) r x) hq) (fun fl s' hs => ?_) fun e s' hs => hs
  cases fl with
  | ret u =>
    obtain ⟨v, σ', H', J, rv, q⟩ := hs
    exact ⟨v, H', J.os, J.bare, J.base, J.hok, rv, q⟩
  | next =>
    obtain ⟨σ', H', J, q⟩ := hs
    exact ⟨V.non, H', J.os, J.bare, J.base, J.hok, rfl, q⟩
  | brk =>
    obtain ⟨_, _, _, q⟩ := hs
    exact q.elim
  | cont =>
    obtain ⟨_, _, _, q⟩ := hs
    exact q.elim
section
variable {X : Cx} {k : Nat} {f : Addr} {fd : FuncData} {ps : List Str} {sp : Sp} {E : L2.St → XK} {x : Str} {q pos : Pos} {e : Expr} {es : List Expr} {t : TA}
theorem pe_callQ (F : FnQ X.prog X.w X.K X.mg X.base k f fd ps sp) (hr : L2H.RoomH k X.A) (hc : ∃ p, p ∈ X.pn) (hg : Gl X x) (hm : X.mg x = some (.ref f)) (hk : PySem.W.keepIn X.K (.ref f) = true) (hb : Binds X.K fd ps [])
    (ha : PA X (e :: es) t) (hdb : (x == ("__debug__" : Str)) = false) (he : starEach (e :: es) X.env = (false, eval e X.env) :: starEach es X.env) (hpl : (backTo pos (starEach es X.env)).any (·.1) = false) :
    PE X (.Call (.Name x q) (e :: es) [] pos) (tCallS sp E t) := by
  refine ⟨fun pins s σ H Q I h => wpAny_Call_Name_kw (ld_glob I hg hm ?_ hdb)⟩
  refine PySem.W.callWith_K (h₀ := X.base) I.ok.mod.kin hk (thn (ha.run pos pins s σ H _ I h) fun us s1 ⟨vs, H1, I1, r, h1⟩ => ⟨I1.kIn, ?_⟩) he hpl
  obtain ⟨p, hp⟩ := hc
  have b := hb s1 us I1.kIn (by rw [List.append_nil, ← r.length]; exact F.len _ _ _ _ h1)
  rw [List.append_nil] at b
  have P1 := I1.pin p (List.mem_append_left _ hp)
  refine wpAny_call (codeAny_mono (F.run X.A X.stack s1 H1 ⟨us, []⟩ us vs Q (E σ) p hr ⟨P1.1, P1.2.1, fun hm => (List.mem_cons.mp (I1.stkSub p.1 hm)).elim P1.2.2.1 P1.2.2.2.1, P1.2.2.2.2⟩ I1.env0 b r h1) fun r s' hq => ?_)
  match r, hq with
  | .error _, hq => exact hq.elim
  | .ok (.ret u), hq => exact I1.after hq
  | .ok .next, hq => exact False.elim hq
  | .ok .brk, hq => exact False.elim hq
  | .ok .cont, hq => exact False.elim hq
end
variable [Tabs]
section
variable {X : Cx} {k n : Nat} {f : Addr} {fd : FuncData} {ps : List Str} {m : FM} {x : Str} {q pos : Pos} {e : Expr} {es : List Expr} {fs : FOs}
theorem de_callQ {a : Addr} {oe : Obj} {pn : List (Addr × Obj)} (F : FnQ X.prog X.w X.K X.mg X.base k f fd ps (spOf X.K n m)) (hr : Room k X.A) (hg : Gl X x) (hm : X.mg x = some (.ref f))
    (hk : PySem.W.keepIn X.K (.ref f) = true) (hb : Binds X.K fd ps []) (ha : DOs (X.suite a ((a, oe) :: pn)) W0 (e :: es) fs) (hdb : (x == ("__debug__" : Str)) = false := by decide) (he : starEach (e :: es) X.env = (false, eval e X.env) :: starEach es X.env := by rfl) (hpl : (backTo pos (starEach es X.env)).any (·.1) = false := by rfl) :
    DE (X.suite a ((a, oe) :: pn)) W0 (.Call (.Name x q) (e :: es) [] pos) (fCall m n fs) := ⟨pe_le (pe_callQ (X := X.suite a ((a, oe) :: pn)) (E := fun σ c d H => W0 c d σ H) F (L2H.roomH_mark hr _) ⟨(a, oe), List.mem_cons_self⟩ hg hm hk hb ha.pa hdb he hpl) fun σ H Q h => by
  obtain ⟨G, S, R, XR, l, rs, hF, hQ, hX⟩ := h
  refine ⟨G, S, _, XR, l, rs, hF, fun as S1 vs H1 l1 h1 ok1 rs1 => ?_, hX⟩
  have h1 := h1.ok
  have q := spOf_of (W := W0) l1 ok1 rs1 h1.2 hQ hX
  rw [Nat.eq_of_beq_eq_true h1.1] at q
  exact q⟩
end
section
variable {X : Cx} {W : WX} {mask : List Bool}
/-- what is not reached -/
theorem dss_never {sts : List Stmt} : DSs X W mask sts sFalse := ⟨⟨fun _ _ _ _ _ _ h => by
  obtain ⟨G, S, E, l, rs, hF, _⟩ := h
  exact hF.elim⟩⟩
end
section
variable {P : Program} {w : World} {K : PySem.W.Frag} {mg : Str → Option Value} {base : Heap}
theorem fn_okQ {x qual : Str} {st : Stmt} {f : Addr} {fd : FuncData} {dvs : List V} {kws : List (Str × V)} {N ps : List Str} {k : Nat} {mask : List Bool} {B : FS} {m : FM} (F : FunD K x qual (defArgs st) (defBody st) (defScope st) dvs kws f fd) (Sc : FnScope N ps (defScope st)) (hmask : mask.length = ps.length)
    (body : ∀ (cdv : Value) (A : Around) (outer : List Env) (s : Shared) (H : Hp) (E : XK) (p : Addr × Obj), HotU (A.deeper (envOfC qual (defScope st) s.heap.objs.size f cdv)) →
      DSs (L2H.cxH cxNo P w K mg base N qual (defScope st) f cdv A outer s H E p) (fun c d _ H => E c d H) mask (defBody st) B)
    (hm : BodyIs mask N.length B m) : FnQ P w K mg base (k + 1) f fd ps (spOf K ps.length m) := by
  have hpl : ps.length ≤ N.length := by have := congrArg List.length Sc.pre; rw [List.length_take] at this; omega
  obtain ⟨oc, od, dV, kV, doc, pm, an, cdv, ct, osl, rfl, lk, hcd, _, _⟩ := F.ex
  refine fn_ofQ lk hcd Sc (fun vs H Q E h => h.1) fun A outer s H vs Q E p hr h => ?_
  refine ⟨_, (body cdv A outer s H E p ⟨by have := hr.un; omega⟩).ps, ?_⟩
  obtain ⟨lv, G, ms, R, XR, lm, rs, hms, hQ, hX⟩ := h
  have lN : N.length - vs.length = N.length - mask.length := by rw [lv, hmask]
  have len0 : (L2.start N vs).length = (ms ++ List.replicate (N.length - mask.length) M.gone).length := by
    unfold L2.start
    rw [List.length_append, List.length_append, List.length_map, List.length_replicate, List.length_replicate, lv, lm, hmask]
  have rs0 : RS K H (G ++ (L2.start N vs).zip (ms ++ List.replicate (N.length - mask.length) M.gone)) := by
    unfold L2.start
    rw [List.zip_append (by rw [List.length_map, lv, lm]), lN]
    obtain ⟨O, n, r⟩ := RS.perm List.perm_append_comm rs
    refine ⟨O, n, ?_⟩
    rw [← List.append_assoc]
    have q := r.append (RL.gones (K := K) (H := H) (O := O) r.tabs (N.length - mask.length))
    rw [List.append_nil] at q
    exact q
  have hmk : mask.length = vs.length := by rw [hmask, lv]
  have fin : ∀ {σ' : L2.St}, Ag mask (L2.start N vs) σ' → ∀ i : Nat, mask[i]? = some true → ∃ v, vs[i]? = some v ∧ σ'[i]? = some (some v) := fun {σ'} ag i hi => by
    have hi' : i < vs.length := by rw [← hmk]; exact (List.getElem?_eq_some_iff.mp hi).1
    refine ⟨vs[i], List.getElem?_eq_getElem hi', ?_⟩
    rw [ag.same i hi]
    unfold L2.start
    rw [List.getElem?_append_left (by rw [List.length_map]; exact hi'), List.getElem?_map, List.getElem?_eq_getElem hi']
    rfl
  refine ⟨G, _, _, len0, rs0, hm ms R XR (by rw [lm, hmask]) hms, fun S' σ' H' ag l' hn rs' => ?_, fun r S' v σ' H' ag l' hr rs' => ?_, fun _ _ _ _ _ h _ => h.elim, fun _ _ _ _ _ h _ => h.elim, fun c fs S' d σ' H' ag l' hx xo => ?_⟩
  · exact hQ _ _ _ H' hn ((RS.outs hmk l' (fin ag) rs').val fun _ => .non)
  · have q := RS.outs (G := (some v, r) :: G) hmk l' (fin ag) rs'
    exact hQ _ _ _ H' hr (RS.perm (perm_mid _ _ _) q)
  · refine hX c fs _ d H' hx (xo.imp fun L1 r => ?_)
    have r1 : RS K H' ((L1 ++ G) ++ σ'.zip S') := by rw [List.append_assoc]; exact r
    exact RS.rot (RS.outs hmk l' (fin ag) r1)
end
end DM

/-! A sign in a text; a text some times. -/
namespace DM
open PySem PySem.Spec PyProof.Rows
open L2
variable [Tabs]
section
variable {X : Cx}
def inSB : BM := fun ms R => match ms with
  | [.v (.str x), .v (.str z)] => ∃ c : Nat, x = ⟨#[c]⟩ ∧ R (.v (.bl (decide (c ∈ z.cps.toList)))) ms
  | _ => False
theorem o_inS : OpR X (compareOp .In) (r2B X.K inSB) := by
  intro pins s σ H x y v u Q I rx ry h
  obtain ⟨L, ms, R, l, rs, hb, hQ⟩ := h
  unfold inSB at hb
  split at hb
  · obtain ⟨c, rfl, hb⟩ := hb
    obtain ⟨O, f1, f2, n, h1, h2, r⟩ := RS.two rs
    have e1 := h1.str
    have e2 := h2.str
    cases e1
    cases e2
    exact op_in_sign pins s σ H _ _ v u Q I rx ry ⟨c, _, rfl, rfl, hQ _ _ _ H hb (rs.bl _)⟩
  · exact hb.elim
/-- no time or once -/
def srepB : BM := fun ms R => match ms with
  | [.v (.str x), .v (.int k)] => (k = 0 ∨ k = 1) ∧ R (.v (.str (if k = 0 then Str.empty else x))) ms
  | _ => False
theorem o_srep : OpR X (binaryOp .Mult) (r2B X.K srepB) := by
  intro pins s σ H x y v u Q I rx ry h
  obtain ⟨L, ms, R, l, rs, hb, hQ⟩ := h
  unfold srepB at hb
  split at hb
  · rename_i z k
    obtain ⟨k0, hb⟩ := hb
    obtain ⟨O, f1, f2, n, h1, h2, r⟩ := RS.two rs
    have e1 := h1.str
    have e2 := h2.int
    cases e1
    cases e2
    obtain ⟨t, rfl⟩ := (show ∃ t, v = Value.str z t from rx)
    obtain ⟨t', rfl⟩ := (show ∃ t, u = Value.int k t from ry)
    have q := hQ _ _ (.str _) H hb (rs.str _)
    rcases k0 with rfl | rfl
    · exact PySem.P.mul_str_none (by decide) (by decide) ⟨.str _, H, I.tok _, ⟨_, rfl⟩, q⟩
    · exact PySem.P.mul_str (by decide) (fun _ e => nomatch e) (fun _ e => nomatch e) ⟨.str _, H, I, ⟨_, rfl⟩, q⟩
  · exact hb.elim
end
end DM

/-! Dicts of the top with text keys, read in a def; a tuple of any depth compared with a text. -/
namespace DM
open PySem PySem.Spec PyProof.Rows
open L2
/-- what the written dict at a holds: texts to ints -/
structure KTab (K : PySem.W.Frag) (w : World) (a : Addr) (kvs : List (Str × Int)) : Prop where
  d : ∃ es n, KDict K w a es n
  hit : ∀ x v, kvs.lookup x = some v → ∃ u, PySem.W.nsIn K a x = some (some u) ∧ RelV (.int v) u
  miss : ∀ x, kvs.lookup x = none → PySem.W.nsIn K a x = some none
theorem lookup_mem' : ∀ {kvs : List (Str × Int)} {x : Str} {v : Int}, kvs.lookup x = some v → (x, v) ∈ kvs
  | (k, u) :: r, x, v, h => by
    rw [List.lookup_cons] at h
    cases q : x == k with
    | true =>
      rw [q] at h
      cases h
      rw [eq_of_beq q]
      exact List.mem_cons_self
    | false =>
      rw [q] at h
      exact List.mem_cons_of_mem _ (lookup_mem' h)
theorem lookup_none' : ∀ {kvs : List (Str × Int)} {x : Str}, kvs.lookup x = none → ∀ p ∈ kvs, p.1 ≠ x
  | (k, u) :: r, x, h, p, hp => by
    rw [List.lookup_cons] at h
    cases q : x == k with
    | true => rw [q] at h; cases h
    | false =>
      rw [q] at h
      rcases List.mem_cons.mp hp with e | hp
      · intro z
        rw [e] at z
        rw [show k = x from z] at q
        rw [beq_self_eq_true] at q
        cases q
      · exact lookup_none' h p hp
theorem ktab_of {fa : List He.Fa} {fn : List He.DefD} {ts : List He.Tab} {w : World} {K : PySem.W.Frag} (c : He.SaysT fa fn ts w K) (i : Nat) {t : He.Tab} {kvs : List (Str × Int)} (h : ts[i]? = some t) (hk : t.2 = kvs.map Prod.fst)
    (hv : He.valsB K (t.1 K) (kvs.map fun p => (p.1, .int p.2)) = true) : KTab K w (t.1 K) kvs := by
  have hw : He.dicW K (t.1 K) = some (He.keysIn w.params t.2) := by
    have e : ts.map (fun t => He.dicW K (t.1 K)) = ts.map fun t => some (He.keysIn w.params t.2) := congrArg (fun z : He.AlT => z.2) c
    have e2 : (ts.map fun t => He.dicW K (t.1 K))[i]? = (ts.map fun t => some (He.keysIn w.params t.2))[i]? := by rw [e]
    rw [List.getElem?_map, List.getElem?_map, h] at e2
    exact Option.some.inj e2
  refine ⟨He.dicW_ok hw, fun x v hx => ?_, fun x hx => ?_⟩
  · have hm := lookup_mem' hx
    obtain ⟨u, e1, e2⟩ := He.valsB_ok hv (List.mem_map.mpr ⟨(x, v), hm, rfl⟩)
    exact ⟨u, e1, e2⟩
  · obtain ⟨es, n, D⟩ := He.dicW_ok hw
    have hne := lookup_none' hx
    unfold He.dicW at hw
    rw [D.at_] at hw
    have hmap : es.toList.map He.keyOf = He.keysIn w.params t.2 := by
      dsimp only at hw
      split at hw
      · exact Option.some.inj hw
      · cases hw
    have key : ∀ e ∈ es.toList, ∃ y tk, e.key = Value.str y tk ∧ y ≠ x := fun e he => by
      have hm : He.keyOf e ∈ He.keysIn w.params t.2 := by
        rw [← hmap]
        exact List.mem_map.mpr ⟨e, he, rfl⟩
      unfold He.keysIn at hm
      obtain ⟨k, hk1, hk2⟩ := List.mem_map.mp hm
      unfold He.keyOf at hk2
      split at hk2
      · rename_i y tk q
        refine ⟨y, tk, q, ?_⟩
        have hk3 := Option.some.inj hk2
        have hk4 : k = y := congrArg Prod.fst hk3
        rw [hk] at hk1
        obtain ⟨p, hp, e1⟩ := List.mem_map.mp hk1
        rw [← hk4, ← e1]
        exact hne p hp
      · cases hk2
    unfold PySem.W.nsIn
    rw [D.at_]
    have f0 : es.toList.find? (·.key.isStr x) = none := by
      rw [List.find?_eq_none]
      intro e he
      obtain ⟨y, tk, q, hy⟩ := key e he
      rw [q]
      intro z
      exact hy (by simpa [Value.isStr] using z)
    have f1 : es.toList.any (·.refKey) = false := by
      rw [List.any_eq_false]
      intro e he
      obtain ⟨y, tk, q, hy⟩ := key e he
      unfold DictEntry.refKey
      rw [q]
      exact fun z => nomatch z
    dsimp only
    rw [f0, f1]
    rfl
variable [Tabs]
section
variable {X : Cx}
/-- x in D, x not in D: neg for not -/
def kInB (neg : Bool) (kvs : List (Str × Int)) (a : Addr) : BM := fun ms R => match ms with
  | [.v (.str x), .v (.ptr b)] => b = a ∧ R (.v (.bl ((kvs.lookup x).isSome ^^ neg))) ms
  | _ => False
theorem o_kIn {a : Addr} {kvs : List (Str × Int)} (T : KTab X.K X.w a kvs) : OpR X (compareOp .In) (r2B X.K (kInB false kvs a)) := by
  intro pins s σ H x y v u Q I rx ry h
  obtain ⟨L, ms, R, l, rs, hb, hQ⟩ := h
  unfold kInB at hb
  split at hb
  · rename_i z b
    obtain ⟨rfl, hb⟩ := hb
    obtain ⟨O, f1, f2, n, h1, h2, r⟩ := RS.two rs
    have e1 := h1.str
    cases e1
    have e2 : y = .ref b := by
      cases h2 with
      | v h => cases h; rfl
    subst e2
    obtain ⟨es, m, D⟩ := T.d
    cases q : kvs.lookup z with
    | none =>
      rw [q] at hb
      exact op_in_kd D pins s σ H _ _ v u Q I rx ry ⟨z, none, rfl, rfl, T.miss z q, hQ _ _ _ H hb (rs.bl _)⟩
    | some v0 =>
      rw [q] at hb
      obtain ⟨u0, h3, h4⟩ := T.hit z v0 q
      exact op_in_kd D pins s σ H _ _ v u Q I rx ry ⟨z, some u0, rfl, rfl, h3, hQ _ _ _ H hb (rs.bl _)⟩
  · exact hb.elim
theorem o_kNotIn {a : Addr} {kvs : List (Str × Int)} (T : KTab X.K X.w a kvs) : OpR X (compareOp .NotIn) (r2B X.K (kInB true kvs a)) := by
  intro pins s σ H x y v u Q I rx ry h
  obtain ⟨L, ms, R, l, rs, hb, hQ⟩ := h
  unfold kInB at hb
  split at hb
  · rename_i z b
    obtain ⟨rfl, hb⟩ := hb
    obtain ⟨O, f1, f2, n, h1, h2, r⟩ := RS.two rs
    have e1 := h1.str
    cases e1
    have e2 : y = .ref b := by
      cases h2 with
      | v h => cases h; rfl
    subst e2
    obtain ⟨es, m, D⟩ := T.d
    cases q : kvs.lookup z with
    | none =>
      rw [q] at hb
      exact op_notIn_kd D pins s σ H _ _ v u Q I rx ry ⟨z, none, rfl, rfl, T.miss z q, hQ _ _ _ H hb (rs.bl _)⟩
    | some v0 =>
      rw [q] at hb
      obtain ⟨u0, h3, h4⟩ := T.hit z v0 q
      exact op_notIn_kd D pins s σ H _ _ v u Q I rx ry ⟨z, some u0, rfl, rfl, h3, hQ _ _ _ H hb (rs.bl _)⟩
  · exact hb.elim
/-- D[x] -/
def kIxB (kvs : List (Str × Int)) (a : Addr) : BM := fun ms R => match ms with
  | [.v (.ptr b), .v (.str x)] => b = a ∧ ∃ i, kvs.lookup x = some i ∧ R (.v (.int i)) ms
  | _ => False
theorem o_kIx {a : Addr} {kvs : List (Str × Int)} (T : KTab X.K X.w a kvs) : IxR X (r2B X.K (kIxB kvs a)) := by
  intro value slice pins s σ H x y v u Q I rx ry h hs
  obtain ⟨L, ms, R, l, rs, hb, hQ⟩ := h
  unfold kIxB at hb
  split at hb
  · rename_i b z
    obtain ⟨rfl, i, e, hb⟩ := hb
    obtain ⟨O, f1, f2, n, h1, h2, r⟩ := RS.two rs
    have e1 := h2.str
    cases e1
    have e2 : x = .ref b := by
      cases h1 with
      | v h => cases h; rfl
    subst e2
    obtain ⟨es, m, D⟩ := T.d
    obtain ⟨u0, h3, h4⟩ := T.hit z i e
    exact ix_kdict value slice pins s σ H _ _ v u Q I rx ry ⟨b, z, .int i, rfl, rfl, ⟨es, m, u0, D.at_, D.lit, h3, h4⟩, hQ _ _ _ H hb (rs.int _)⟩ hs
  · exact hb.elim
/-- a text or a tuple against a text -/
def eqTB (neg : Bool) : BM := fun ms R => match ms with
  | [.v (.str x), .v (.str y)] => R (.v (.bl (decide (x = y) ^^ neg))) ms
  | [.v (.tup ds), .v (.str y)] => (∃ n, Pl false n (.tup ds)) ∧ PyData.strOk y = true ∧ R (.v (.bl neg)) ms
  | _ => False
theorem tup_py {n : Nat} {ds : List D} (h : Pl false n (.tup ds)) : ∃ ps, pyD (.tup ds) = some (.tuple ps) ∧ PyData.canLay0 (.tuple ps) = true := by
  obtain ⟨p, e, l, _⟩ := pl_py n _ h
  have e' := e
  rw [pyD] at e'
  cases q : pyDs ds with
  | none => rw [q] at e'; cases e'
  | some ps =>
    rw [q] at e'
    cases e'
    exact ⟨ps, e, l⟩
theorem o_eqT (hu : X.A.units + 64 < cLine) : OpR X (compareOp .Eq) (r2B X.K (eqTB false)) := by
  intro pins s σ H x y v u Q I rx ry h
  obtain ⟨L, ms, R, l, rs, hb, hQ⟩ := h
  unfold eqTB at hb
  split at hb
  · obtain ⟨O, f1, f2, n, h1, h2, r⟩ := RS.two rs
    have e1 := h1.str
    have e2 := h2.str
    cases e1
    cases e2
    rw [Bool.xor_false] at hb
    exact op_eq pins s σ H _ _ v u Q I rx ry ⟨rfl, by rw [decide_str]; exact hQ _ _ _ H hb (rs.bl _)⟩
  · rename_i ds z
    obtain ⟨⟨m, pl⟩, sk, hb⟩ := hb
    obtain ⟨O, f1, f2, n, h1, h2, r⟩ := RS.two rs
    obtain ⟨ps, e1, l1⟩ := tup_py pl
    obtain ⟨as, r1⟩ := Dp.reads I _ _ _ (dpM h1 e1) rx
    obtain ⟨bs, r2⟩ := Dp.reads I (.str z) _ _ (dpM h2 rfl) ry
    refine SeqAt.compareEq_reads r1 r2 l1 sk (by show X.A.units + min _ 0 < cLine; rw [Nat.min_zero]; omega) ?_
    have e : PyData.eqv (.tuple ps) (.str z) = false := by simp [PyData.eqv]
    rw [e]
    exact ⟨.bl _, H, I, rfl, hQ _ _ _ H hb (rs.bl _)⟩
  · exact hb.elim
theorem o_neT (hu : X.A.units + 64 < cLine) : OpR X (compareOp .NotEq) (r2B X.K (eqTB true)) := by
  intro pins s σ H x y v u Q I rx ry h
  obtain ⟨L, ms, R, l, rs, hb, hQ⟩ := h
  unfold eqTB at hb
  split at hb
  · obtain ⟨O, f1, f2, n, h1, h2, r⟩ := RS.two rs
    have e1 := h1.str
    have e2 := h2.str
    cases e1
    cases e2
    rw [Bool.xor_true] at hb
    exact op_ne pins s σ H _ _ v u Q I rx ry ⟨rfl, by rw [decide_str]; exact hQ _ _ _ H hb (rs.bl _)⟩
  · rename_i ds z
    obtain ⟨⟨m, pl⟩, sk, hb⟩ := hb
    obtain ⟨O, f1, f2, n, h1, h2, r⟩ := RS.two rs
    obtain ⟨ps, e1, l1⟩ := tup_py pl
    obtain ⟨as, r1⟩ := Dp.reads I _ _ _ (dpM h1 e1) rx
    obtain ⟨bs, r2⟩ := Dp.reads I (.str z) _ _ (dpM h2 rfl) ry
    refine SeqAt.compareNe_reads r1 r2 l1 sk (by show X.A.units + min _ 0 < cLine; rw [Nat.min_zero]; omega) ?_
    have e : PyData.eqv (.tuple ps) (.str z) = false := by simp [PyData.eqv]
    rw [e]
    exact ⟨.bl _, H, I, rfl, hQ _ _ _ H hb (rs.bl _)⟩
  · exact hb.elim
end
end DM

/-! len(set(text)). -/
namespace DM
open PySem PySem.Spec PyProof.Rows
/-- the sgns, each once, in the order in which they come -/
def dstep (acc : List Str) (x : Str) : List Str := if acc.any (· == x) = true then acc else acc ++ [x]
def ddl (xs : List Str) : List Str := xs.foldl dstep []
def sgns (z : Str) : List Str := z.cps.toList.map fun c => ⟨#[c]⟩
theorem ddl_snoc (xs : List Str) (x : Str) : ddl (xs ++ [x]) = dstep (ddl xs) x := by
  unfold ddl
  rw [List.foldl_append]
  rfl
theorem dstep_any (acc : List Str) (x k : Str) : (dstep acc x).any (· == k) = (acc.any (· == k) || decide (k = x)) := by
  unfold dstep
  split
  · rename_i h
    by_cases e : k = x
    · subst e
      rw [h]
      rfl
    · rw [decide_eq_false e, Bool.or_false]
  · rw [List.any_append]
    congr 1
    by_cases e : k = x
    · subst e; simp
    · have e2 : (x == k) = false := beq_false_of_ne (Ne.symm e)
      simp [e2, e]
theorem dstep_len (acc : List Str) (x : Str) : (dstep acc x).length = if acc.any (· == x) = true then acc.length else acc.length + 1 := by
  unfold dstep
  split
  · rfl
  · rw [List.length_append, List.length_singleton]
theorem ddl_len : ∀ (xs acc : List Str), (xs.foldl dstep acc).length ≤ acc.length + xs.length
  | [], _ => Nat.le_refl _
  | x :: r, acc => by
    refine Nat.le_trans (ddl_len r (dstep acc x)) ?_
    rw [dstep_len, List.length_cons]
    split <;> omega
section
variable {prog : Program} {w : World} {A : Around} {R : Result → Shared → Prop} {I : Addr} {fp wr : List Addr} {G : Array GenState → Array GenState → Prop} {n : Nat} {P : Nat → Value → Prop} {St : Nat → Shared → Prop}
theorem loopT (W : WalksS prog w A.in1 I fp wr G n P St) (c : Addr) (hcf : c ∉ fp) (zs : List Str) (hz : zs.length = n) (hn : n < 1000) (hv : ∀ i v, P i v → ∃ x t, zs[i]? = some x ∧ v = .str x t) :
    ∀ (j i : Nat) (s : Shared), n - i = j → i ≤ n → St i s → s.heap.SetOf (PySem.strKind prog w) c (fun q => (ddl (zs.take i)).any (· == q)) (ddl (zs.take i)).length →
      (∀ s2, Moved (c :: wr) G s s2 → s2.heap.SetOf (PySem.strKind prog w) c (fun q => (ddl zs).any (· == q)) (ddl zs).length → R (.ok (.ret .none)) s2) → codeAny (model prog w) A (.builtin "set.update.loop" ⟨[.ref c, .ref I], []⟩) R s := by
  have cw : c ∉ wr := fun h => hcf (W.sub _ h)
  have up : ∀ b ∈ wr, b ∈ c :: wr := fun b hb => List.mem_cons_of_mem _ hb
  intro j
  induction j with
  | zero =>
    intro i s hj hi hst hS hR
    obtain rfl : i = n := by omega
    rw [List.take_of_length_le (by omega)] at hS
    refine codeAny_builtin PyProof.Rows.F.entry_set_update_loop ?_; rw [Around.under_plainId PyProof.Rows.F.plain_set_update_loop _]
    refine (show wpAny _ A.in1 (pyNext (.ref I) >>= _) _ _ s from wpAny_bind (W.done s _ _ hst fun s2 hm => ?_))
    exact (show wpAny _ A.in1 (ret Value.none) _ _ s2 from wpAny_pure (hR s2 (hm.mono up) (by
      obtain ⟨o, es, ep, t, ho, more⟩ := hS
      exact ⟨o, es, ep, t, hm.heap c _ cw ho, more⟩)))
  | succ j ih =>
    intro i s hj hi hst hS hR
    have hlt : i < n := by omega
    refine codeAny_builtin PyProof.Rows.F.entry_set_update_loop ?_; rw [Around.under_plainId PyProof.Rows.F.plain_set_update_loop _]
    refine (show wpAny _ A.in1 (pyNext (.ref I) >>= _) _ _ s from wpAny_bind (W.item i s _ _ hlt hst fun v s2 hP hst2 hm => ?_))
    obtain ⟨x, t, hx, rfl⟩ := hv i v hP
    have hS2 : s2.heap.SetOf (PySem.strKind prog w) c (fun q => (ddl (zs.take i)).any (· == q)) (ddl (zs.take i)).length := by
      obtain ⟨o, es, ep, tb, ho, more⟩ := hS
      exact ⟨o, es, ep, tb, hm.heap c _ cw ho, more⟩
    have hsm : (ddl (zs.take i)).length < 1000 := by
      have h1 := ddl_len (zs.take i) []
      rw [List.length_take, List.length_nil] at h1
      unfold ddl
      omega
    refine (show wpAny _ A.in1 (holding [Value.str x t] (setAdd c (.str x t)) >>= _) _ _ s2 from wpAny_bind (wpAny_holding ?_))
    unfold setAdd
    refine wpAny_holding (wpAny_bind ((PySem.strKind prog w).pyHash (k := x) (strKind_is _ _ _ _) ?_))
    refine wpAny_setAddHashed_of (knd := PySem.strKind prog w) (s := { s2 with toks := s2.toks + 1 }) (strKind_is _ _ _ _) rfl hS2 (Nat.lt_trans (Nat.succ_lt_succ hsm) (by unfold scanBound; omega)) fun h2 sb hS3 => ?_
    have hS4 : h2.SetOf (PySem.strKind prog w) c (fun q => (ddl (zs.take (i + 1))).any (· == q)) (ddl (zs.take (i + 1))).length := by
      have e : zs.take (i + 1) = zs.take i ++ [x] := by
        rw [List.take_add_one, hx]
        rfl
      rw [e, ddl_snoc]
      exact SetOf_congr hS3 (fun q => (dstep_any _ _ _).symm) (dstep_len _ _).symm
    refine wpAny_pure ⟨plainId_quiet PyProof.Rows.F.plain_set_update_loop _, ih (i + 1) _ (by omega) hlt (W.frame _ s2 _ _ hst2 (Nat.le_succ _) fun b hb o e => by rw [sb.2 b (fun h : b = c => hcf (by rw [← h]; exact hb))]; exact e) hS4 fun s3 hm3 hS5 => ?_⟩
    refine hR s3 (Moved.trans W.gtrans ((hm.mono up).then_heap (Nat.le_succ _) fun b o hb e => by rw [sb.2 b (fun h : b = c => hb (by rw [h]; exact List.mem_cons_self))]; exact e) hm3) hS5
end
section
variable {prog : Program} {w : World} {A : Around} {E : Value → Shared → Prop} {s : Shared}
theorem signAt_signs {z : Str} {i : Nat} {v : Value} (h : SignAt z i v) : ∃ x t, (sgns z)[i]? = some x ∧ v = .str x t := by
  obtain ⟨c, u, h1, rfl⟩ := h
  refine ⟨⟨#[c]⟩, u, ?_, rfl⟩
  unfold sgns
  rw [List.getElem?_map, Array.getElem?_toList, h1]
  rfl
set_option maxHeartbeats 3200000 in
theorem set_text {z : Str} {t : Tok} {Q : Value → Shared → Prop} (hh : A.handled = none) (hz : z.length < 1000)
    (h : ∀ (h' : Heap) (tk : Nat), h'.SetOf (PySem.strKind prog w) s.heap.objs.size (fun q => (ddl (sgns z)).any (· == q)) (ddl (sgns z)).length → (∀ b o, b < s.heap.objs.size → s.heap.get? b = some o → h'.get? b = some o) → Q (.ref s.heap.objs.size) { s with heap := h', toks := tk }) :
    wpAny (model prog w) A (call (.type "set") [.str z t]) Q E s := by
  obtain ⟨c0, tl, hmro⟩ := PySem.F.called_set.mro; have made := PySem.F.called_set.made; have sub0 := PySem.F.called_set.sub
  refine wpAny_call (codeAny_of_tree ?_); show wpAny _ _ (callAny (.type "set") _) _ _ _
  refine wpAny_pure ⟨Code.quiet_builtin _ (by decide +kernel), codeAny_builtin PySem.F.entry_type_call ?_⟩; rw [Around.under_plain (weight_type_call_type "set" [.str z t] []) rfl]
  have n1 := PySem.F.called_set.notType; have n2 := PySem.F.called_set.canCreate; have n3 := PySem.F.typeCall_set_1 (.str z t); repeat (any_goals (first | assumption | wp_step))
  generalize hA : s.heap.objs.size = a at h ⊢
  refine codeAny_mono (code_set_new_1 (.str z t) (E := E) (Q₁ := fun obj s1 => ∃ led : Bool, obj = .ref a ∧ s1 = { s with heap := s.heap.push { cls := .type "set", dict := none, data := .set #[] 0 (.fresh 0 0 led) } }) fun led => ⟨led, by rw [hA], rfl⟩) fun r s1 hr => ?_
  cases r with
  | error e => exact hr
  | ok fl =>
    cases fl with
    | ret obj =>
      obtain ⟨led, rfl, rfl⟩ := hr
      generalize hh1 : s.heap.push { cls := .type "set", dict := none, data := .set #[] 0 (.fresh 0 0 led) } = h1
      have g1 : h1.get? a = some { cls := .type "set", dict := none, data := .set #[] 0 (.fresh 0 0 led) } := by rw [← hh1, ← hA]; exact Heap.get?_push_size _ rfl
      have z1 : h1.objs.size = a + 1 := by rw [← hh1, Heap.size_push, hA]
      have k1 : ∀ b o, s.heap.get? b = some o → h1.get? b = some o := fun b o e => by rw [← hh1]; exact Heap.get?_push_of_some _ e
      have hT : Shared.TypeIs { s with heap := h1 } (.ref a) "set" := ⟨_, g1, rfl⟩
      have li := PySem.F.called_set.init.lookup; have bi := PySem.F.called_set.init.bind (.ref a); repeat (any_goals (first | assumption | wp_step))
      refine codeAny_mono (codeAny_call_builtin (R := wants (fun r s2 => r = .none ∧ ∃ h' tk, s2 = { s with heap := h', toks := tk } ∧ h'.SetOf (PySem.strKind prog w) a (fun q => (ddl (sgns z)).any (· == q)) (ddl (sgns z)).length ∧ (∀ b o, b < a → s.heap.get? b = some o → h'.get? b = some o)) E) PySem.F.called_set.init.plain PySem.F.entry_set_init (check_set_init_1 hT ?_)) fun r2 s2 hr2 => ?_
      · have u1 := PySem.F.sub_str_set; have u2 := PySem.F.sub_str_frozenset; have u3 : (Value.type "str" == Value.type "dict") = false := by decide
        unfold Builtin.«set.__init__» noKeywords Builtin.Frozenset.updateFrom; generalize hPI : pyIter = PI; wp_walk; subst hPI
        refine wpAny_pyIter_str fun o St hW hSt => ?_
        refine wpAny_bind (wpAny_runValue ?_)
        have hh3 : A.in1.in1.in1.handled = none := by simp [hh]
        refine loopT ((hW _ hh3).toS) a (by rw [z1]; simp) (sgns z) (by unfold sgns; rw [List.length_map, Array.length_toList]) hz (fun i v hv => signAt_signs hv) (z.cps.size - 0) 0 _ (by omega) (Nat.zero_le _) hSt ?hS0 ?hR
        case hS0 =>
          have hget : (h1.push o).get? a = some { cls := .type "set", dict := none, data := .set #[] 0 (.fresh 0 0 led) } := Heap.get?_push_of_some _ g1
          exact SetOf_congr ((PyProof.Rows.setObjOf_fresh (knd := PySem.strKind prog w) led).setOf hget (by unfold scanBound; omega)) (fun _ => rfl) rfl
        case hR =>
          intro s3 hm hS3
          obtain ⟨h4, g4, d4, tk4, os4⟩ := s3
          obtain rfl : g4 = s.gens := hm.gens
          obtain rfl : d4 = s.drawn := hm.drawn
          obtain rfl : os4 = s.os := hm.os
          refine (show wpAny _ _ _ _ _ _ from wpAny_pure (show wpAny _ _ (ret Value.none) _ _ _ from wpAny_pure ⟨rfl, h4, tk4, rfl, hS3, fun b o hb e => ?_⟩))
          have b1 : b ≠ a := Nat.ne_of_lt hb
          have b2 : b ≠ h1.objs.size := by rw [z1]; omega
          exact hm.heap b o (by simp only [List.mem_cons, List.mem_singleton, List.not_mem_nil, or_false, not_or]; exact ⟨b1, b2⟩) (Heap.get?_push_of_some _ (k1 b o e))
      · cases r2 with
        | error e => exact hr2
        | ok fl2 =>
          cases fl2 with
          | ret r =>
            obtain ⟨rfl, h', tk, rfl, hS', hk'⟩ := hr2; repeat (any_goals (first | assumption | wp_step))
            exact h _ _ hS' hk'
          | _ => exact hr2.elim
    | _ => exact hr.elim
end
end DM
namespace DM
open PySem PySem.Spec PyProof.Rows
open L2
variable [Tabs]
section
variable {X : Cx} {W : WX}
def tLenSetT (ta : TE) : TE := fun σ H Q => ta σ H fun x H1 => ∃ z : Str, x = .str z ∧ z.length < 1000 ∧ Q (.int ((ddl (sgns z)).length : Nat)) H1
theorem pe_lenSetT {a : Expr} {ta : TE} {p p2 q pos : Pos} (hc : X.calm = true) (hg : Gl X "len") (hm : X.mg "len" = none) (hg2 : Gl X "set") (hm2 : X.mg "set" = none) (ha : PE X a ta)
    (na : starEach [a] X.env = (false, eval a X.env) :: starEach [] X.env := by rfl) : PE X (.Call (.Name "len" p) [.Call (.Name "set" p2) [a] [] q] [] pos) (tLenSetT ta) := by
  refine ⟨fun pins s σ H Q I h => Call_ (ld_blt I hg hm boot_len (PyProof.Rows.callWith_builtin1 (PyProof.Rows.args_cons (Call_ (ld_blt I hg2 hm2 boot_set ?_)) rfl) rfl rfl))⟩
  refine PyProof.Rows.callWith_type1 (PyProof.Rows.args_cons (thn (ha.run pins s σ H _ I h) fun v s1 ⟨x, H1, I1, r1, z, e1, hz, q1⟩ => PyProof.Rows.args_nil ?_) na) na rfl
  subst e1
  obtain ⟨t, rfl⟩ := r1
  refine set_text (I1.ok.hd hc) hz fun h' tk hS hk => PyProof.Rows.args_nil ?_
  obtain ⟨o, es, ep, tb, ho, hex, hd, _, _, _, hf, hn⟩ := hS
  have I2 : Inv X pins σ H1 { s1 with heap := h', toks := tk } := I1.kept fun b o e => hk b o (Heap.lt_size e) e
  have hl := ddl_len (sgns z) []
  have hl2 : (sgns z).length = z.length := by unfold sgns; rw [List.length_map, Array.length_toList]; rfl
  have hl3 : (ddl (sgns z)).length < 1000 := by
    unfold ddl
    rw [List.length_nil] at hl
    omega
  exact call_len_set ho hex hd hf (by rw [hn]; omega) ⟨.int ((ddl (sgns z)).length : Nat), H1, I2.tok _, ⟨_, by rw [hn]⟩, q1⟩
def fLenSet (F : FE) : FE := fun S R XR => F S (fun m S' => match m with
  | .v (.str z) => z.length < 1000 ∧ R (.v (.int ((ddl (sgns z)).length : Nat))) S'
  | _ => False) XR
theorem de_lenSet {a : Expr} {F : FE} {p p2 q pos : Pos} (hc : X.calm = true) (hg : Gl X "len") (hm : X.mg "len" = none) (hg2 : Gl X "set") (hm2 : X.mg "set" = none) (ha : DE X W a F)
    (na : starEach [a] X.env = (false, eval a X.env) :: starEach [] X.env := by rfl) : DE X W (.Call (.Name "len" p) [.Call (.Name "set" p2) [a] [] q] [] pos) (fLenSet F) := ⟨pe_le (pe_lenSetT hc hg hm hg2 hm2 ha.pe na) fun σ H Q h => by
  obtain ⟨G, S, R, XR, l, rs, hF, hQ, hX⟩ := h
  refine ⟨G, S, _, XR, l, rs, hF, fun m S1 x H1 l1 hb rs1 => ?_, hX⟩
  split at hb
  · rename_i z
    obtain ⟨O, f1, n, h1, r1⟩ := RS.one rs1
    have e := h1.str
    cases e
    exact ⟨z, rfl, hb.1, hQ _ _ _ H1 l1 hb.2 ((rs1.drop).int _)⟩
  · exact hb.elim⟩
end
end DM

/-! text[::-1]. -/
namespace DM
open PySem PySem.Spec PyProof.Rows
open L2
variable [Tabs]
/-- the text read from its end -/
def revS (z : Str) : Str := ⟨((Builtin.Str.strSliceIndices none none (-1) z.length).filterMap (z.cps[·]?)).toArray⟩
section
variable {X : Cx} {W : WX}
def tRevS (te : TE) : TE := fun σ H Q => te σ H fun x H1 => ∃ z : Str, x = .str z ∧ (revS z).length ≤ sizeLine ∧ Q (.str (revS z)) H1
theorem pe_revS {e : Expr} {te : TE} {k : Nat} {p1 p2 p3 pos : Pos} (he : PE X e te) : PE X (.Subscript e (.Slice none none (some (.UnaryOp .USub (.Constant (.int 1) k p1) p2)) p3) pos) (tRevS te) := by
  refine ⟨fun pins s σ H Q I h => Subscript_ (thn (he.run pins s σ H _ I h) fun v s1 ⟨x, H1, I1, r1, z, ex, hz, hq⟩ => ?_)⟩
  subst ex
  obtain ⟨t, rfl⟩ := r1
  have hst : PO X (some (.UnaryOp .USub (.Constant (.int 1) k p1) p2)) (tPart (tUn (rU fun i => .int (-i)) (tC (.int 1)))) := po_some (pe_un un_neg pe_int)
  refine wpAny_Slice (thn (po_none.run pins s1 σ H1 (fun o H2 => o = none ∧ H2 = H1) I1 ⟨rfl, rfl⟩) fun vl s2 ⟨l, H2, I2, pl, el, e2⟩ => ?_)
  subst el e2
  refine thn (po_none.run pins s2 σ H2 (fun o H3 => o = none ∧ H3 = H2) I2 ⟨rfl, rfl⟩) fun vu s3 ⟨u, H3, I3, pu, eu, e3⟩ => ?_
  subst eu e3
  refine thn (hst.run pins s3 σ H3 (fun o H4 => o = some (-1) ∧ H4 = H3) I3 ⟨1, rfl, -1, rfl, rfl, rfl⟩) fun vs s4 ⟨o, H4, I4, ps, eo, e4⟩ => ?_
  subst eo e4
  have I5 : Inv X pins σ H4 { s4 with heap := s4.heap.push { cls := .type "slice", data := .fields #[vl, vu, vs] } } := I4.kept (t' := s4.toks) fun b ob q => Heap.get?_push_of_some _ q
  obtain ⟨l1, rfl, m1⟩ := IsPart.raw pl
  obtain ⟨l2, rfl, m2⟩ := IsPart.raw pu
  obtain ⟨l3, rfl, m3⟩ := IsPart.raw ps
  refine tail_any (ops := [.str z t, .ref s4.heap.objs.size]) (typeIs_str _ _ _) (PySem.F.slot_str_getitem.lookup) ?_ (by with_unfolding_all rfl)
  refine wpAny_getItem_str_slice (l := l1) (u := l2) (st := l3) (Heap.IsSliceOf.new _ _ _ _) (by rw [m3]; rfl) ?_
  have e : sliceMade z t l1 l2 l3 = .str (revS z) := by
    unfold sliceMade slicePicked revS
    rw [m1, m2, m3]
    rfl
  rw [e]
  exact ⟨hz, .str _, H4, I5.tok _, ⟨_, rfl⟩, hq⟩
def fRevS (F : FE) : FE := fun S R XR => F S (fun m S' => match m with
  | .v (.str z) => (revS z).length ≤ sizeLine ∧ R (.v (.str (revS z))) S'
  | _ => False) XR
theorem de_revS {e : Expr} {F : FE} {k : Nat} {p1 p2 p3 pos : Pos} (ha : DE X W e F) : DE X W (.Subscript e (.Slice none none (some (.UnaryOp .USub (.Constant (.int 1) k p1) p2)) p3) pos) (fRevS F) := ⟨pe_le (pe_revS ha.pe) fun σ H Q h => by
  obtain ⟨G, S, R, XR, l, rs, hF, hQ, hX⟩ := h
  refine ⟨G, S, _, XR, l, rs, hF, fun m S1 x H1 l1 hb rs1 => ?_, hX⟩
  split at hb
  · rename_i z
    obtain ⟨O, f1, n, h1, r1⟩ := RS.one rs1
    have e := h1.str
    cases e
    exact ⟨z, rfl, hb.1, hQ _ _ _ H1 l1 hb.2 ((rs1.drop).str _)⟩
  · exact hb.elim⟩
end
end DM

/-! List comprehensions whose items may let an exception out. -/
namespace DM
open PySem PySem.Spec PyProof.Rows
open L2
section
variable {M : Model} {A : Around} {E : Value → Shared → Prop} {s : Shared} {env : Env}
/-- the end of a comprehension's block -/
def cpX (M : Model) (A : Around) (E : Value → Shared → Prop) (Q : Value → Shared → Prop) (acc : Value) (cenv : Env) (r : Result) (s2 : Shared) : Prop := match r with
  | .ok _ => ∃ m, s2.heap.Ns cenv.locals m ∧ ∀ h, Heap.SameBut cenv.locals s2.heap h → Q acc { s2 with heap := h }
  | .error x => ∃ m, s2.heap.Ns cenv.locals m ∧ ∀ h, Heap.SameBut cenv.locals s2.heap h → wpAny M A (passOn "comprehension.variables-let-go" x cenv : Sem Value) (fun _ _ => False) E { s2 with heap := h }
theorem comp_x {e : Expr} {scope : Scope} {pos : Pos} {newAcc first : Sem Value} {g : Comprehension} {gs : List Comprehension} {cl : List (Str × Addr)} {Q : Value → Shared → Prop} (hcl : clausesOf e = g :: gs) (hs : ∀ x, foldedSetIterable g.iter env x = pure x) (hclos : closureFor scope env = pure cl)
    (hkind : scope.kind = .function) (hnames : ∀ x ∈ scope.names, x.2 = .local → scope.names.lookup x.1 = some .local)
    (h : wpAny M A first (fun x s1 => wpAny M A (pyIter x) (fun it s2 => wpAny M A newAcc (fun acc s3 => wpAny M A (newFunctionEnv scope env.globals cl [] env.qual none .none (some env)) (fun cenv s4 => codeAny M A (.compStart e 0 it acc { cenv with scope := relabel scope env }) (cpX M A E Q acc { cenv with scope := relabel scope env }) s4) E s3) E s2) E s1) E s) :
    wpAny M A (comprehension e scope env pos newAcc false first none) Q E s := by
  unfold comprehension; rw [hclos, hcl]
  refine wpAny_bind (wpAny_mono h (fun x s1 h1 => wpAny_bind (wpAny_standAt (wpAny_bind (wpAny_of_eq (hs x) (wpAny_bind (wpAny_holding (wpAny_mono h1 (fun it s2 h2 => wpAny_standIf (wpAny_bind (wpAny_mono h2 (fun acc s3 h3 => wpAny_bind (wpAny_pure (wpAny_bind (wpAny_mono h3 (fun cenv s4 h4 => ?_) fun _ _ z => z)))) fun _ _ z => z))) fun _ _ z => z))))))) fun _ _ z => z)
  dsimp only
  have hks : ∀ x ∈ (scope.names.filter fun x => (x.2 == .local || x.2 == .cell) && x.1 != (".0" : Str)).reverse, x.2 = .local → Env.kindOf { cenv with scope := relabel scope env } x.1 = some .local := fun x hx hl => lookup_relabel_local (hnames x (List.mem_filter.mp (List.mem_reverse.mp hx)).1 hl)
  refine wpAny_holding (wpAny_bind (wpAny_attempt (wpAny_holding (wpAny_run (codeAny_mono h4 fun r s5 hr => ?_)))))
  cases r with
  | ok f =>
    obtain ⟨m, hn, hr⟩ := hr
    exact wpAny_bind (wpAny_holding (wpAny_comp_letGo (cenv := { cenv with scope := relabel scope env }) hkind _ s5 m hks hn fun h5 m5 _ hs5 => wpAny_pure (hr h5 hs5)))
  | error x =>
    obtain ⟨m, hn, hr⟩ := hr
    exact wpAny_bind (wpAny_holding (wpAny_comp_letGo (cenv := { cenv with scope := relabel scope env }) hkind _ s5 m hks hn fun h5 m5 _ hs5 => wpAny_mono (hr h5 hs5) (fun _ _ f => f.elim) fun _ _ y => y))
end
section
/-- two heaps that agree where the frames stand -/
theorem funs_but {h h2 B : Heap} : ∀ {l : List Env}, h.FunFrames B l → (∀ L ∈ frs l, h2.get? L = h.get? L) → h2.FunFrames B l
  | [], _, _ => trivial
  | env :: l, f, hn => by
    obtain ⟨k, ⟨L, o, hf, hb, ho, hd⟩, r⟩ := f
    exact ⟨k, ⟨L, o, hf, hb, (hn L (List.mem_filterMap.mpr ⟨env, List.mem_cons_self, hf⟩)).trans ho, hd⟩, funs_but r fun b hb => by
      obtain ⟨e, he, q⟩ := List.mem_filterMap.mp hb
      exact hn b (List.mem_filterMap.mpr ⟨e, List.mem_cons_of_mem _ he, q⟩)⟩
variable {X : Cx} {pins : List (Addr × Obj)} {σ : L2.St} {H : Hp} {s : Shared} {W : WX}
/-- behind a call that let an exception out: the state without it, told where it stands -/
theorem air_call (I : Inv X pins σ H s) {a : Addr} {B : Heap} {H2 : Hp} {Z : Obj → Prop} {s2 : Shared} (fl : HandSPX.FlyingZ B X.stack a Z s2.heap) (hok : HOk X.prog X.w H2 B) (ub : UB (frs X.stack) H H2 s.heap B s2.heap) (ag : AllBare s2.gens) :
    ∃ G : Heap, Inv X pins σ H2 { s with heap := G, gens := s2.gens, drawn := s2.drawn, toks := s2.toks } ∧ (∀ b o, G.get? b = some o → b ∉ frs X.stack → B.get? b = some o) ∧ (∀ b o, G.get? b = some o → s2.heap.get? b = some o) ∧ (∀ b, B.get? b = none → b ∉ frs X.stack → G.get? b = none) := by
  obtain ⟨G, g1, g2⟩ := restrict s2.heap fun b => (B.get? b).isSome || decide (b ∈ frs X.stack)
  have st : B.StaysIn s2.heap := fl.1
  have gB : ∀ b o, B.get? b = some o → G.get? b = some o := fun b o e => (g1 b (by simp [e])).trans (st b o e)
  have gF : ∀ b, b ∈ frs X.stack → G.get? b = s2.heap.get? b := fun b hb => g1 b (by simp [hb])
  have og : ∀ b o, G.get? b = some o → s2.heap.get? b = some o ∧ ((B.get? b).isSome = true ∨ b ∈ frs X.stack) := fun b o e => by
    cases q : ((B.get? b).isSome || decide (b ∈ frs X.stack)) with
    | false => exact absurd (g2 b q) (by rw [e]; exact fun z => nomatch z)
    | true => exact ⟨(g1 b q).symm.trans e, by simpa [Bool.or_eq_true] using q⟩
  refine ⟨G, ?_, fun b o e hb => ?_, fun b o e => (og b o e).1, fun b hb hf => g2 b (by simp [hb, hf])⟩
  · refine I.call (ch := []) ⟨fun b o e n hb _ => gB b o (ub.keep b o e n hb), fun b o e n hb _ => ?_, fun b o e n _ => ub.free b o e n, fun b o e _ => ?_, ub.tups, ub.frzs, ub.tbls⟩ (hok.kept gB) ag (fun _ z => nomatch z)
    · obtain ⟨sl, q⟩ := ub.slot b o e hb
      exact ⟨sl, (gF b hb).trans q⟩
    · by_cases hb : b ∈ frs X.stack
      · obtain ⟨sl, q⟩ := ub.slot b o e hb
        exact ⟨_, (gF b hb).trans q⟩
      · obtain ⟨o2, q⟩ := ub.there b o e hb
        exact ⟨o2, gB b o2 q⟩
  · obtain ⟨e1, q | q⟩ := og b o e
    · obtain ⟨o2, q⟩ := Option.isSome_iff_exists.mp q
      cases e1.symm.trans (st b o2 q)
      exact q
    · exact absurd q hb
/-- an item's exception comes out of the comprehension -/
theorem blk_err (tk : Takes X W) (hs : X.stack = X.env :: X.outer) (hf : X.env.frame = some X.env.locals) {scope : Scope} {ce : Env} {fp : List Addr} (I3 : Inv X pins σ H s) (hce : ce.locals = s.heap.objs.size) (hcf : ce.frame = X.env.frame) (f3 : ∀ b ∈ fp, FpOk X pins H b ∧ b < s.heap.objs.size)
    {pb : List (Addr × Obj)} {σb : L2.St} {Hb : Hp} {sb s2 : Shared} {u : Value} (Ib : Inv (X.blk s H scope ce fp) pb σb Hb sb) {E : XK} (hE : ∀ c d H2, E c d H2 → W c d σ H2) (cx : L2.CX X.prog X.w X.stack Hb sb E u s2) {Q : Value → Shared → Prop} {acc : Value} :
    notedBy (model X.prog X.w) X.A ce (fun x s4 => cpX (model X.prog X.w) X.A X.xe Q acc ce (.error x) s4) u s2 := by
  obtain ⟨a, B, H2, cls, d, rfl, fl, hok, ub, na, os, ag, hE2⟩ := cx
  have hC : Hb ce.locals = none := Ib.free
  obtain ⟨m, ⟨oC, es, ep, eC, dC, skC, nsC⟩, _⟩ := Ib.loc
  have eC : sb.heap.get? ce.locals = some oC := eC
  have nF : ce.locals ∉ frs X.stack := fun hm => by
    obtain ⟨_, o, e, _⟩ := I3.stack.mem hm
    have q := Heap.lt_size e
    rw [hce] at q
    exact Nat.lt_irrefl _ q
  have BC : B.get? ce.locals = some oC := ub.keep _ _ eC hC nF
  have nC : ∀ b o, s.heap.get? b = some o → b ≠ ce.locals := fun b o e z => by
    have q := Heap.lt_size e
    rw [z, hce] at q
    exact Nat.lt_irrefl _ q
  obtain ⟨G, g1, g2⟩ := restrict sb.heap fun b => decide (b ≠ ce.locals)
  obtain ⟨B2, b1, b2⟩ := restrict B fun b => decide (b ≠ ce.locals)
  have G1 : ∀ b, b ≠ ce.locals → G.get? b = sb.heap.get? b := fun b h => g1 b (decide_eq_true h)
  have G2 : G.get? ce.locals = none := g2 _ (decide_eq_false fun z => z rfl)
  have B1 : ∀ b, b ≠ ce.locals → B2.get? b = B.get? b := fun b h => b1 b (decide_eq_true h)
  have B0 : B2.get? ce.locals = none := b2 _ (decide_eq_false fun z => z rfl)
  have Gn : ∀ b o, G.get? b = some o → b ≠ ce.locals := fun b o e z => by rw [z, G2] at e; cases e
  have Bn : ∀ b o, B2.get? b = some o → b ≠ ce.locals := fun b o e z => by rw [z, B0] at e; cases e
  have bsub : ∀ b o, B2.get? b = some o → B.get? b = some o := fun b o e => (B1 b (Bn b o e)).symm.trans e
  have bnone : ∀ b, B.get? b = none → B2.get? b = none := fun b e => by
    cases q : B2.get? b with
    | none => rfl
    | some o => rw [bsub b o q] at e; cases e
  have I2 : Inv X pins σ Hb { sb with heap := G } := by
    refine I3.call' (ch := fp) Ib.os ⟨fun b o e n h1 h2 => ?_, fun b o e n h1 h2 => ?_, Ib.base.free, fun b o e h2 => ?_, Ib.base.tups, Ib.base.frzs, Ib.base.tbls⟩ (fun b o q => ?_) Ib.bare fun b hb => ⟨(f3 b hb).1.2.2.2.1, (f3 b hb).1.2.1, (f3 b hb).1.2.2.2.2.1, (f3 b hb).1.2.2.2.2.2⟩
    · exact (G1 b (nC b o e)).trans (Ib.base.keep b o e n h1 h2)
    · obtain ⟨sl, q⟩ := Ib.base.slot b o e n h1 h2
      exact ⟨sl, (G1 b (nC b o e)).trans q⟩
    · obtain ⟨o2, q⟩ := Ib.base.there b o e h2
      exact ⟨o2, (G1 b (nC b o e)).trans q⟩
    · refine (Ib.hok b o q).stay (fun c v hc r => (G1 c fun z => ?_).trans r) (fun _ r => r) fun _ _ r => r
      rcases hc with hc | hc
      · rw [← hc, z, hC] at q; cases q
      · rw [z, hC] at hc; cases hc
  obtain ⟨f1, f2, f5, f4⟩ := fl
  obtain ⟨oe, vs, T, oT, ts, he, hz, hd, h1, hnT, hTe, hT, hdT, h3⟩ := f4
  have nCe : a ≠ ce.locals := fun z => by rw [z, BC] at f2; cases f2
  have H2C : H2 ce.locals = none := ub.free _ _ eC hC
  have fl2 : HandSPX.FlyingZ B2 X.stack a (Zc cls d) s2.heap := ⟨fun b o e => f1 b o (bsub b o e), bnone _ f2, funFrames_none f5 fun L hL => bnone _ (f5.mem hL).1, oe, vs, T, oT, ts, he, hz, hd, h1, bnone _ hnT, hTe, hT, hdT, h3⟩
  have hok2 : HOk X.prog X.w H2 B2 := fun b o q => (hok b o q).stay (fun c v hc r => (B1 c fun z => by
    rcases hc with hc | hc
    · rw [← hc, z, H2C] at q; cases q
    · rw [z, H2C] at hc; cases hc).trans r) (fun _ r => r) fun _ _ r => r
  have eb : ∀ b o, G.get? b = some o → sb.heap.get? b = some o := fun b o e => (G1 b (Gn b o e)).symm.trans e
  have ub2 : UB (frs X.stack) Hb H2 G B2 s2.heap := ⟨fun b o e n hb => (B1 b (Gn b o e)).trans (ub.keep b o (eb b o e) n hb), fun b o e hb => ub.slot b o (eb b o e) hb, fun b o e n => ub.free b o (eb b o e) n, fun b o e hb => by
    obtain ⟨o2, q⟩ := ub.there b o (eb b o e) hb
    exact ⟨o2, (B1 b (Gn b o e)).trans q⟩, ub.tups, ub.frzs, ub.tbls⟩
  obtain ⟨G', II, nb, gk, gn⟩ := air_call I2 (s2 := s2) fl2 hok2 ub2 ag
  have GC : G'.get? ce.locals = none := gn _ B0 nF
  have fr : X.A.frames = some (X.env :: X.outer) := by rw [I3.ok.frames, hs]
  have en : noteFrame (.ref a) ce = noteFrame (.ref a) X.env := by
    unfold noteFrame PySem.frameOf
    rw [hcf]
  show wpAny _ _ (noteFrame (.ref a) ce) _ _ _
  rw [en]
  rw [hs] at fl2
  refine HandSPX.looks_onZ Zc.steady fr hf fl2 fun h4 hh up => ?_
  have C2 : s2.heap.get? ce.locals = some oC := f1 _ _ BC
  have ns4 : h4.Ns ce.locals m := up.ns ⟨oC, es, ep, C2, dC, skC, nsC⟩
  refine ⟨m, ns4, fun h5 sb5 => ?_⟩
  obtain ⟨k1, k2, k3, oe4, vs4, T4, oT4, ts4, he4, hz4, hd4, h14, hnT4, hTe4, hT4, hdT4, h34⟩ := hh
  obtain ⟨o4, es4, ep4, e4, d4, _, _⟩ := ns4
  have o5 : ∀ b, b ≠ ce.locals → h5.get? b = h4.get? b := fun b hb => sb5.2 b hb
  have nT4 : T4 ≠ ce.locals := fun z => by
    rw [z, e4] at hT4
    cases hT4
    rw [d4] at hdT4
    cases hdT4
  have tr5 : HandSPX.TracedZ h5 B2 a (Zc cls d) (rawInt X.env.locals) := ⟨oe4, vs4, T4, oT4, ts4, (o5 _ nCe).trans he4, hz4, hd4, h14, hnT4, hTe4, (o5 _ nT4).trans hT4, hdT4, h34⟩
  have st5 : B2.StaysIn h5 := fun b o e => (o5 b (Bn b o e)).trans (k1 b o e)
  have ff5 : h5.FunFrames B2 (X.env :: X.outer) := funs_but k3 fun L hL => o5 L fun z => nF (by rw [← z, hs]; exact hL)
  show wpAny _ _ (passOn "comprehension.variables-let-go" (.ref a) ce : Sem Value) _ _ _
  unfold PySem.passOn
  refine wpAny_bind (wpAny_field ((o5 _ nCe).trans he4) hd4 h14 ?_)
  rw [if_neg (by simp)]
  refine wpAny_bind (HandSPX.setFlight_anyZ st5 ff5 tr5 fun h6 a1 a2 a3 up6 => wpAny_throw ?_)
  refine tk _ _ ⟨a, B2, _, pins, σ, H2, cls, d, rfl, II, nb, fun b o e hn => ?_, .inr (.inr ⟨a1, k2, by rw [hs]; exact a2, by rw [hcf, hf] at a3; exact a3⟩), na, os, ag, hE _ _ _ hE2⟩
  have e' : G'.get? b = some o := e
  have nb2 : b ≠ ce.locals := fun z => by rw [z, GC] at e'; cases e'
  obtain ⟨sl1, q1⟩ := up b o (gk b o e') hn
  have q2 : h5.get? b = some { o with slots := sl1 } := (o5 b nb2).trans q1
  obtain ⟨sl2, q3⟩ := up6 b _ q2 hn
  exact ⟨sl2, q3⟩
end
end DM

/-! List comprehensions whose items may let an exception out: the rule. -/
namespace DM
open PySem PySem.Spec PyProof.Rows
open L2
section
/-- the context of the block: W is what is wanted of an exception, the def's slots as they stood at the block's start -/
abbrev blkW (X : Cx) (W : WX) (σ0 : L2.St) (s : Shared) (H : Hp) (scope : Scope) (ce : Env) (fp : List Addr) : Cx :=
  { X.blk s H scope ce fp with xe := fun e s2 => ∃ pb σb Hb sb, Inv (X.blk s H scope ce fp) pb σb Hb sb ∧ L2.CX X.prog X.w X.stack Hb sb (fun c d H2 => W c d σ0 H2) e s2 }
theorem blkW_in {X : Cx} {W : WX} {σ0 : L2.St} {s0 : Shared} {H0 : Hp} {scope : Scope} {ce : Env} {fp : List Addr} {pins : List (Addr × Obj)} {σ : L2.St} {H : Hp} {s : Shared} (I : Inv (X.blk s0 H0 scope ce fp) pins σ H s) : Inv (blkW X W σ0 s0 H0 scope ce fp) pins σ H s := by
  obtain ⟨⟨a1, a2, a3, a4, a5, a6, a7, a8, a9, a10, a11, a12, a13, a14, a15, a16, a17, a18⟩, b1, b2, b3, b4, b5, b6, b7, b8, b9, b10⟩ := I
  exact ⟨⟨a1, a2, a3, a4, a5, a6, a7, a8, a9, a10, a11, a12, a13, a14, a15, a16, a17, a18⟩, b1, b2, b3, b4, b5, b6, b7, b8, b9, b10⟩
theorem blkW_out {X : Cx} {W : WX} {σ0 : L2.St} {s0 : Shared} {H0 : Hp} {scope : Scope} {ce : Env} {fp : List Addr} {pins : List (Addr × Obj)} {σ : L2.St} {H : Hp} {s : Shared} (I : Inv (blkW X W σ0 s0 H0 scope ce fp) pins σ H s) : Inv (X.blk s0 H0 scope ce fp) pins σ H s := by
  obtain ⟨⟨a1, a2, a3, a4, a5, a6, a7, a8, a9, a10, a11, a12, a13, a14, a15, a16, a17, a18⟩, b1, b2, b3, b4, b5, b6, b7, b8, b9, b10⟩ := I
  exact ⟨⟨a1, a2, a3, a4, a5, a6, a7, a8, a9, a10, a11, a12, a13, a14, a15, a16, a17, a18⟩, b1, b2, b3, b4, b5, b6, b7, b8, b9, b10⟩
/-- what a call in the block lets out is taken -/
theorem passW {X : Cx} {W : WX} {σ0 : L2.St} {s0 : Shared} {H0 : Hp} {scope : Scope} {ce : Env} {fp : List Addr} (σ : L2.St) : PassesAt (L2.CX X.prog X.w) (blkW X W σ0 s0 H0 scope ce fp) σ (WE (fun c d _ H2 => W c d σ0 H2) σ) :=
  fun pins H s e s2 I c => ⟨pins, σ, H, s, blkW_out I, c⟩
variable {X : Cx} {W : WX}
def tLcX (wi : TI) (g : TG) (tt : TT) (te : L2.St → TE) (vs : List Nat) : TE := fun σ H Q => wi σ H fun J H1 => ∀ D, H1 D = none → ∃ V : Nat → Nat → Hp → Prop, (∃ m, V 0 m (upd H1 D (.lst []))) ∧ ∀ i m H, V i m H →
  (J.stop i H ∧ Q (.ref D) H) ∨ (J.go i H ∧ ∃ Nx : Hp → Prop, (∀ H', Nx H' → ∃ m', m' < m ∧ V (i + 1) m' H') ∧ ∀ x H', J.yld i H x H' → g x (wipe σ vs) H' fun σ2 H2 => wipe σ2 vs = wipe σ vs ∧ tt σ2 H2 fun b H3 =>
    if b = true then te σ σ2 H3 fun y H4 => ∃ acc, H4 D = some (.lst acc) ∧ acc.length < sizeLine ∧ Nx (upd H4 D (.lst (acc ++ [y]))) else Nx H3)
theorem pe_lcX {elt tg iter : Expr} {ifs : List Expr} {scope : Scope} {own : List (Str × Nat)} {pos : Pos} {wi : TI} {g : TG} {tt : TT} {te : L2.St → TE} (tk : Takes X W) (hst : X.stack = X.env :: X.outer) (hfr : X.env.frame = some X.env.locals) (hc : X.calm = true) (hN : X.N.Nodup) (hi : PI X tg iter wi) (ok : BlkOk X.N X.env.scope scope own)
    (hg : ∀ (s : Shared) (H : Hp) (C : Addr) (cl : List (Str × Addr)) (fp : List Addr), PG (X.blk s H scope (compEnvC scope cl C X.env) fp) tg g) (ht : ∀ (s : Shared) (H : Hp) (C : Addr) (cl : List (Str × Addr)) (fp : List Addr), PTs (X.blk s H scope (compEnvC scope cl C X.env) fp) ifs tt)
    (he : ∀ (σ0 : L2.St) (s : Shared) (H : Hp) (C : Addr) (cl : List (Str × Addr)) (fp : List Addr), PE (blkW X W σ0 s H scope (compEnvC scope cl C X.env) fp) elt (te σ0)) (hs : ∀ x, foldedSetIterable iter X.env x = pure x := by intro _; rfl) :
    PE X (.ListComp elt [⟨tg, iter, ifs, 0⟩] scope pos) (tLcX wi g tt te (own.map (·.2))) := by
  refine ⟨fun pins s σ H Q I h => ?_⟩
  rw [eval_ListComp]
  have hfree : ∀ y ∈ scope.names, y.2 = .free → ∃ c, X.env.cells.lookup y.1 = some c := fun y hy e => (ok.free y hy e).elim (fun k => I.ok.has _ (.inl k)) fun k => I.ok.has _ (.inr k)
  refine comp_x rfl hs (closure_ok hfree) ok.kind (fun y hy e => by rw [ok.uniq y hy, e]) (thn (hi.run pins s σ H _ I h) fun xv s1 hx => thn hx fun itv s2 h2 => ?_)
  obtain ⟨it, fp, tn, J, H2, e, I2, T, st2, f2, q⟩ := h2; subst e
  refine wpAny_newObj_type (newEnv_comp ?_) (by show 0 ≤ sizeLine; decide)
  generalize hD : s2.heap.objs.size = D; have hDn : H2 D = none := I2.hok.fresh (Nat.le_of_eq hD)
  obtain ⟨V, ⟨m0, v0⟩, turn⟩ := q D hDn
  generalize hs3 : ({ s2 with heap := s2.heap.push { cls := .type "list", data := .seq ([] : List Value).toArray } } : Shared) = s3
  have I3 : Inv X pins σ (upd H2 D (.lst [])) s3 := by
    rw [← hs3]
    exact I2.laid (t' := s2.toks) (fun b o e => Heap.get?_push_of_some _ e) (Nat.le_of_eq hD) ⟨Nat.zero_le _, [], 0, .nil, by rw [← hD]; exact Heap.get?_push_size _ rfl⟩
  have h3 : s3.heap = s2.heap.push { cls := .type "list", data := .seq ([] : List Value).toArray } := by rw [← hs3]
  have f3 : ∀ b ∈ fp, FpOk X pins (upd H2 D (.lst [])) b ∧ b < s3.heap.objs.size := fun b hb => by
    obtain ⟨o, eo, _⟩ := T.obj _ _ st2 b hb
    have lt := Heap.lt_size eo
    exact ⟨⟨(upd_ne (by rw [← hD]; exact Nat.ne_of_lt lt)).trans (f2 b hb).1, (f2 b hb).2⟩, by rw [h3, Heap.size_push]; exact Nat.lt_succ_of_lt lt⟩
  have st3 : tn 0 s3.heap := T.keep _ _ _ st2 fun b _ o e => by rw [h3]; exact Heap.get?_push_of_some _ e
  have I4 := block_start I3 ok hN f3
  have pg := hg s3 (upd H2 D (.lst [])) s3.heap.objs.size (cellsFrom (s3.heap.objs.size + 1) scope.names (cloFrom X.env.cells scope.names [])) fp
  have pt := ht s3 (upd H2 D (.lst [])) s3.heap.objs.size (cellsFrom (s3.heap.objs.size + 1) scope.names (cloFrom X.env.cells scope.names [])) fp
  have pe := he σ s3 (upd H2 D (.lst [])) s3.heap.objs.size (cellsFrom (s3.heap.objs.size + 1) scope.names (cloFrom X.env.cells scope.names [])) fp
  show codeAny _ _ (.compStart (.ListComp elt [⟨tg, iter, ifs, 0⟩] scope pos) 0 (.ref it) (.ref D) (compEnvC scope (cellsFrom (s3.heap.objs.size + 1) scope.names (cloFrom X.env.cells scope.names [])) s3.heap.objs.size X.env)) (cpX (model X.prog X.w) X.A X.xe (EP X pins σ Q) (.ref D) (compEnvC scope (cellsFrom (s3.heap.objs.size + 1) scope.names (cloFrom X.env.cells scope.names [])) s3.heap.objs.size X.env)) { s3 with heap := pushCells (s3.heap.push { cls := .type "dict", data := .dict #[] }) scope.names }
  have nfp : ∀ b ∈ fp, (upd H2 D (.lst [])) b = none := fun b hb => (f3 b hb).1.1
  generalize hce : compEnvC scope (cellsFrom (s3.heap.objs.size + 1) scope.names (cloFrom X.env.cells scope.names [])) s3.heap.objs.size X.env = ce at I4 pg pt pe ⊢
  have cL : ce.locals = s3.heap.objs.size := by subst hce; rfl
  have cF : ce.frame = X.env.frame := by subst hce; rfl
  generalize hH3 : upd H2 D (.lst []) = H3 at I3 I4 pg pt pe v0 nfp f3
  generalize hs4 : ({ s3 with heap := pushCells (s3.heap.push { cls := .type "dict", data := .dict #[] }) scope.names } : Shared) = s4 at I4 ⊢
  have st4 : tn 0 s4.heap := T.keep _ _ _ st3 fun b _ o e => by rw [← hs4]; exact pushCells_keeps _ _ _ _ (Heap.get?_push_of_some _ e)
  have stat : ∀ {σ' : L2.St} {H' : Hp} {s' : Shared}, Inv (X.blk s3 H3 scope ce fp) [] σ' H' s' → (∀ b ∈ fp, H' b = none) → ∀ b ∈ fp, FpOk (X.blk s3 H3 scope ce fp) [] H' b := fun {σ' H' s'} I' hn b hb => ⟨hn b hb, (I'.ok.exf b hb).1, I'.ok.exfs b hb, .inl hb, fun x c e => (I'.ok.exf b hb).2 x c e, fun p hp => absurd (show p ∈ ([] : List (Addr × Obj)) ++ [] from hp) (by simp)⟩
  have loop : codeAny (model X.prog X.w) X.A (.compLoop (.ListComp elt [⟨tg, iter, ifs, 0⟩] scope pos) 0 (.ref it) (.ref D) ce) (cpX (model X.prog X.w) X.A X.xe (EP X pins σ Q) (.ref D) ce) s4 := by
    refine compLoop_any (fun n s' => ∃ i H', Inv (X.blk s3 H3 scope ce fp) [] (wipe σ (own.map (·.2))) H' s' ∧ tn i s'.heap ∧ (∀ b ∈ fp, H' b = none) ∧ V i n H') ?_ m0 ⟨0, H3, I4, st4, nfp, v0⟩
    rintro n s5 ⟨i, H5, I5, st5, n5, w5⟩
    rcases turn i n H5 w5 with ⟨stop, qq⟩ | ⟨go, Nx, hNx, step⟩
    · refine thnF (T.done (X.blk s3 H3 scope ce fp) rfl rfl rfl hc i [] s5 _ H5 (fun _ _ => False) I5 (stat I5 n5) st5 stop) fun r s6 ⟨hr, I6⟩ => ?_
      subst hr
      have I7 : Inv X pins σ H5 s6 := I3.call' (ch := fp) I6.os I6.base I6.hok I6.bare fun b hb => ⟨(f3 b hb).1.2.2.2.1, (f3 b hb).1.2.1, (f3 b hb).1.2.2.2.2.1, (f3 b hb).1.2.2.2.2.2⟩
      have nC : H5 s3.heap.objs.size = none := by rw [← cL]; exact I6.free
      obtain ⟨m, hn, _⟩ := I6.loc
      refine ⟨m, hn, fun h'' sb => ?_⟩
      obtain ⟨z0, z1, z2, z3, z4, z5⟩ := I3.fpOk (Nat.le_refl _) nC
      have sb' : ∀ b, b ≠ s3.heap.objs.size → h''.get? b = s6.heap.get? b := fun b hb => sb.2 b (by rw [cL]; exact hb)
      exact ⟨.ref D, H5, I7.turned (t' := s6.toks) (fun b o hb e => (sb' b hb).trans e) z0 z1 z3 z4 z5, rfl, qq⟩
    · refine thnF (T.item (X.blk s3 H3 scope ce fp) rfl rfl rfl hc i [] s5 _ H5 (fun _ _ => False) I5 (stat I5 n5) st5 go) fun r s6 ⟨u, hr, h6⟩ => ?_
      subst hr
      refine thnF h6 fun _ s7 ⟨x, H7, I7, r7, y7, st7, n7⟩ => ?_
      have I7' := I7.pinned (stat I7 n7) (T.obj _ _ st7)
      refine thnF (pg.run _ s7 _ H7 x u _ I7' r7 (step x H7 y7)) fun _ s8 ⟨σ8, H8, I8, hw8, q8⟩ => ?_
      refine thnF (pt.run _ s8 σ8 H8 _ I8 q8) fun b s9 ⟨H9, I9, q9⟩ => ?_
      have fin : ∀ {s' : Shared} {H' : Hp}, Inv (X.blk s3 H3 scope ce fp) ([] ++ pinsAt fp s7.heap) σ8 H' s' → Nx H' → ∃ m, m < n ∧ ∃ i H', Inv (X.blk s3 H3 scope ce fp) [] (wipe σ (own.map (·.2))) H' s' ∧ tn i s'.heap ∧ (∀ b ∈ fp, H' b = none) ∧ V i m H' := fun {s' H'} I' nx => by
        obtain ⟨m', hm, w'⟩ := hNx H' nx
        have pin' : ∀ b ∈ fp, ∀ o, s7.heap.get? b = some o → s'.heap.get? b = some o ∧ H' b = none := fun b hb o e => ⟨(I'.pin (b, o) (List.mem_append_right _ (List.mem_append_right _ (mem_pinsAt hb e)))).1, (I'.pin (b, o) (List.mem_append_right _ (List.mem_append_right _ (mem_pinsAt hb e)))).2.1⟩
        have hl : (wipe σ (own.map (·.2))).length = σ8.length := by rw [← hw8, wipe_length]
        refine ⟨m', hm, i + 1, H', (I'.unpinned (pins := [])).weak hl (fun j v e => by rw [← hw8] at e; exact (wipe_some e).1), T.keep _ _ _ st7 fun b hb o e => (pin' b hb o e).1, fun b hb => ?_, w'⟩
        obtain ⟨o, e, _⟩ := T.obj _ _ st7 b hb
        exact (pin' b hb o e).2
      cases b with
      | false =>
        rw [if_neg (by decide)] at q9
        exact fin I9 q9
      | true =>
        rw [if_pos rfl] at q9
        refine wpAny_mono (pe.run _ s9 σ8 H9 _ (blkW_in I9) q9) (fun z s10 ⟨yv, H10, I10, r10, acc, hD10, hz10, nx⟩ => ?_) fun z s10 ⟨pb, σb, Hb, sb, Ib, cx⟩ => blk_err tk hst hfr I3 cL cF f3 Ib (fun _ _ _ e => e) cx
        exact app_ok (X := X.blk s3 H3 scope ce fp) (blkW_out I10) hD10 hz10 r10 fun s11 I11 => fin I11 nx
  exact codeAny_compStart_list loop (T.self X.A 0 _ _ _ st4 loop)
end
end DM

/-! List comprehensions whose items may let an exception out: the reading. -/
namespace DM
open PySem PySem.Spec PyProof.Rows
open L2
variable [Tabs]
section
def lcLX (g : FG) (tt : FT) (te : FE) (own : List Nat) (Kf : List D → List M → Prop) (XB : XM) : List D → List D → List M → Prop
  | [], acc, S => Kf acc S
  | d :: ds, acc, S => g (.v d) S (fun S1 => tt S1 (fun b S2 => iteP b (te S2 (fun y S3 => asD y fun e => acc.length < sizeLine ∧ lcLX g tt te own Kf XB ds (acc ++ [e]) (wipeM S3 own)) XB) (lcLX g tt te own Kf XB ds acc (wipeM S2 own))) X0) X0
structure LcLX (g : FG) (tt : FT) (te : FE) (own : List Nat) (Kf : List D → List M → Prop) (XB : XM) (ds acc : List D) (S : List M) : Prop where
  go : lcLX g tt te own Kf XB ds acc S
def fLcX (fi : FI) (g : FG) (tt : FT) (te : FE) (own : List Nat) : FE := fun S R XR => fi S (fun items S0 => LcLX g tt te own (fun acc S' => R (.ml acc) (restM S0 own S')) (fun x S3 => XR x (restM S0 own (wipeM S3 own))) items [] (wipeM S0 own)) XR
theorem lcx_core {K : PySem.W.Frag} {W : WX} {XR : XM} {g : FG} {tt : FT} {te : FE} {own : List Nat} {mask : List Bool} {σ : L2.St} {H H1 : Hp} {Q : VK} {G P : List Pr} {S0 : List M} {R : RMx} {items : List D} {J : It} (hm : maskOk σ.length own mask = true) (l0 : σ.length = S0.length)
    (h0 : LcLX g tt te own (fun acc S' => R (.ml acc) (restM S0 own S')) (fun x S3 => XR x (restM S0 own (wipeM S3 own))) items [] (wipeM S0 own)) (hX : ∀ c fs S' d H', σ.length = S'.length → XR (c, fs) S' → XOk K H' d fs (G ++ σ.zip S') → W c d σ H') (sv : Serve K J P items) (rs0 : RS K H1 (P ++ (G ++ σ.zip S0))) (hQ : ∀ m S' v H', σ.length = S'.length → R m S' → RS K H' (P ++ ((some v, m) :: (G ++ σ.zip S'))) → Q v H') :
    tLcX (fun _ _ Rr => Rr J H1) (tDG K W0 mask g) (tDT K W0 tt) (fun σ0 => tD K (fun c d _ H2 => W c d σ0 H2) te) own σ H Q := by
  refine fun Da hD => ?_
  have a1 : RS K (upd H1 Da (.lst [])) ((some (.ref Da), .ml []) :: (P ++ (G ++ σ.zip S0))) := by
    obtain ⟨O, n, r⟩ := rs0
    exact RS.newLst (vs := []) (ds := []) ⟨O, n, .nil, r⟩ hD
  have a2 : RS K (upd H1 Da (.lst [])) ((ownP σ S0 own ++ ((some (.ref Da), .ml []) :: (P ++ G))) ++ (wipe σ own).zip (wipeM S0 own)) := own_take l0 (by
    rw [List.cons_append, List.append_assoc]; exact a1)
  refine ⟨fun i m H' => ∃ S' acc, σ.length = S'.length ∧ RS K H' ((ownP σ S0 own ++ ((some (.ref Da), .ml acc) :: (P ++ G))) ++ (wipe σ own).zip S') ∧ i + m = items.length ∧ lcLX g tt te own (fun acc S' => R (.ml acc) (restM S0 own S')) (fun x S3 => XR x (restM S0 own (wipeM S3 own))) (items.drop i) acc S',
    ⟨items.length, _, [], by rw [wipeM_len]; exact l0, a2, Nat.zero_add _, h0.go⟩, fun i m H2 hW => ?_⟩
  obtain ⟨S1, acc, l1, rs1, em, h1⟩ := hW
  -- P ahead
  have toP : ∀ {H' : Hp} {acc : List D} {S' : List M} {σ' : L2.St}, RS K H' ((ownP σ S0 own ++ ((some (.ref Da), .ml acc) :: (P ++ G))) ++ σ'.zip S') → RS K H' (P ++ (ownP σ S0 own ++ ((some (.ref Da), .ml acc) :: (G ++ σ'.zip S')))) := fun {H' acc S' σ'} r => by
    refine RS.perm ?_ r
    have e1 : ((ownP σ S0 own ++ ((some (V.ref Da), M.ml acc) :: (P ++ G))) ++ σ'.zip S') = (ownP σ S0 own ++ [(some (V.ref Da), M.ml acc)]) ++ (P ++ (G ++ σ'.zip S')) := by simp
    have e2 : (P ++ (ownP σ S0 own ++ ((some (V.ref Da), M.ml acc) :: (G ++ σ'.zip S')))) = P ++ ((ownP σ S0 own ++ [(some (V.ref Da), M.ml acc)]) ++ (G ++ σ'.zip S')) := by simp
    rw [e1, e2]
    exact perm_rot _ _ _
  obtain ⟨s1, s2⟩ := sv i H2 _ (toP rs1)
  cases e : items[i]? with
  | none =>
    have hl : items.length ≤ i := List.getElem?_eq_none_iff.mp e
    rw [List.drop_eq_nil_of_le hl] at h1
    refine .inl ⟨s2 hl, hQ _ _ _ H2 (by rw [restM_len]; exact l1) h1 ?_⟩
    have b1 := own_back l0 l1 rs1
    have b2 : RS K H2 ((some (.ref Da), .ml acc) :: (P ++ (G ++ σ.zip (restM S0 own S1)))) := by
      rw [List.cons_append, List.append_assoc] at b1; exact b1
    have b3 : RS K H2 (P ++ ((some (.ref Da), .ml acc) :: (G ++ σ.zip (restM S0 own S1)))) := RS.perm (perm_mid _ _ _).symm b2
    exact b3
  | some d =>
    have hl : i < items.length := (List.getElem?_eq_some_iff.mp e).1
    rw [List.drop_eq_getElem_cons hl, (List.getElem?_eq_some_iff.mp e).2] at h1
    obtain ⟨g1, g2⟩ := s1 d e
    refine .inr ⟨g1, fun H' => ∃ S' acc, σ.length = S'.length ∧ RS K H' ((ownP σ S0 own ++ ((some (.ref Da), .ml acc) :: (P ++ G))) ++ (wipe σ own).zip S') ∧ lcLX g tt te own (fun acc S' => R (.ml acc) (restM S0 own S')) (fun x S3 => XR x (restM S0 own (wipeM S3 own))) (items.drop (i + 1)) acc S', fun H' ⟨S', acc, a, b, c⟩ => ⟨m - 1, by omega, S', acc, a, b, by omega, c⟩, fun x H3 hy => ?_⟩
    have c1 := g2 x H3 hy
    have c2 : RS K H3 ((some x, .v d) :: ((ownP σ S0 own ++ ((some (.ref Da), .ml acc) :: (P ++ G))) ++ (wipe σ own).zip S1)) := by
      refine RS.perm (List.Perm.cons _ ?_) c1
      have e1 : ((ownP σ S0 own ++ ((some (V.ref Da), M.ml acc) :: (P ++ G))) ++ (wipe σ own).zip S1) = (ownP σ S0 own ++ [(some (V.ref Da), M.ml acc)]) ++ (P ++ (G ++ (wipe σ own).zip S1)) := by simp
      have e2 : (P ++ (ownP σ S0 own ++ ((some (V.ref Da), M.ml acc) :: (G ++ (wipe σ own).zip S1)))) = P ++ ((ownP σ S0 own ++ [(some (V.ref Da), M.ml acc)]) ++ (G ++ (wipe σ own).zip S1)) := by simp
      rw [e1, e2]
      exact perm_rot _ _ _
    refine ⟨_, S1, .v d, _, X0, by rw [wipe_length]; exact l1, c2, h1, fun S2 σ2 H4 ag2 l2 h2 rs2 => ?_, fun _ _ _ _ _ _ _ _ h _ => h.elim⟩
    have wσ := wipe_ag hm rfl ag2
    have lσ : σ2.length = σ.length := ag2.len.trans (wipe_length _ _)
    refine ⟨wσ, ?_⟩
    refine ⟨_, S2, _, X0, l2, rs2, h2, fun b S3 H5 l3 h3 rs3 => ?_, xok0⟩
    -- the own slots are forgotten
    have wipeR : ∀ {H' : Hp} {acc' : List D} {S' : List M}, σ2.length = S'.length → RS K H' ((ownP σ S0 own ++ ((some (.ref Da), .ml acc') :: (P ++ G))) ++ σ2.zip S') → RS K H' ((ownP σ S0 own ++ ((some (.ref Da), .ml acc') :: (P ++ G))) ++ (wipe σ own).zip (wipeM S' own)) := fun {H' acc' S'} l' r => by
      have q := own_take l' (is := own) r
      rw [wσ, List.append_assoc] at q
      exact RS.dropL q
    cases b with
    | true =>
      dsimp only
      rw [iteP_t] at h3; rw [if_pos rfl]
      refine ⟨_, S3, _, fun x S3 => XR x (restM S0 own (wipeM S3 own)), l3, rs3, h3, fun y S4 v H6 l4 h4 rs4 => ?_, fun c fs S4 d H6 l4 hx xo => hX c fs _ d H6 (by rw [restM_len, wipeM_len, ← l4, lσ]) hx (xo.imp fun L1 r => ?_)⟩
      rotate_left
      · have r1 : RS K H6 ((L1 ++ (ownP σ S0 own ++ ((some (.ref Da), .ml acc) :: (P ++ G)))) ++ σ2.zip S4) := by rw [List.append_assoc]; exact r
        have r2 := own_take l4 (is := own) r1
        rw [wσ, List.append_assoc] at r2
        have r3 := RS.dropL r2
        have r4 : RS K H6 ((ownP σ S0 own ++ (L1 ++ ((some (.ref Da), .ml acc) :: (P ++ G)))) ++ (wipe σ own).zip (wipeM S4 own)) := RS.perm (by
          rw [List.append_assoc, List.append_assoc, List.append_assoc, List.append_assoc]
          exact perm_rot _ _ _) r3
        have r5 := own_back l0 (by rw [wipeM_len, ← l4, lσ]) r4
        have r6 : RS K H6 (((some (.ref Da), .ml acc) :: P) ++ (L1 ++ (G ++ σ.zip (restM S0 own (wipeM S4 own))))) := RS.perm (by
          have e1 : (L1 ++ ((some (V.ref Da), M.ml acc) :: (P ++ G))) ++ σ.zip (restM S0 own (wipeM S4 own)) = L1 ++ (((some (V.ref Da), M.ml acc) :: P) ++ (G ++ σ.zip (restM S0 own (wipeM S4 own)))) := by simp
          rw [e1]
          exact perm_rot _ _ _) r5
        exact RS.dropL r6
      -- the item comes onto the list
      obtain ⟨e, ⟨z, hk⟩, rs5⟩ := RS.asD rs4 h4
      have rs6 : RS K H6 ((some (.ref Da), .ml acc) :: (some v, .v e) :: (ownP σ S0 own ++ ((P ++ G) ++ σ2.zip S4))) := by
        refine RS.perm ?_ rs5
        refine ((List.Perm.cons _ ?_).trans (.swap _ _ _))
        have e1 : ∀ q : Pr, ((ownP σ S0 own ++ (q :: (P ++ G))) ++ σ2.zip S4) = ownP σ S0 own ++ (q :: ((P ++ G) ++ σ2.zip S4)) := fun q => by simp
        rw [e1]
        exact perm_mid _ _ _
      obtain ⟨a, ws, e1, hH, hl', O, n, r1, r2, st, put⟩ := RS.ml2 rs6
      cases e1
      obtain ⟨_, q⟩ := r2.tl
      obtain ⟨v', e2, h2'⟩ := q.hd
      cases e2
      have rs7 : RS K (upd H6 Da (.lst (ws ++ [v]))) ((some (.ref Da), .ml (acc ++ [e])) :: (some v, .v e) :: (ownP σ S0 own ++ ((P ++ G) ++ σ2.zip S4))) := ⟨O, n, put _ _ (r1.append (.cons h2' .nil))⟩
      refine ⟨ws, hH, by rw [hl']; exact z, wipeM S4 own, acc ++ [e], by rw [wipeM_len, ← l4, lσ], ?_, hk⟩
      refine wipeR l4 ?_
      refine RS.perm ?_ rs7.swap.drop
      have e1 : ∀ q : Pr, ((ownP σ S0 own ++ (q :: (P ++ G))) ++ σ2.zip S4) = ownP σ S0 own ++ (q :: ((P ++ G) ++ σ2.zip S4)) := fun q => by simp
      rw [e1]
      exact (perm_mid _ _ _).symm
    | false =>
      dsimp only
      rw [iteP_f] at h3; rw [if_neg (by decide)]
      exact ⟨wipeM S3 own, acc, by rw [wipeM_len, ← l3, lσ], wipeR l3 rs3, h3⟩
variable {X : Cx} {W : WX}
theorem de_lcX {elt tg iter : Expr} {ifs : List Expr} {scope : Scope} {own : List (Str × Nat)} {pos : Pos} {fi : FI} {g : FG} {tt : FT} {te : FE} {mask : List Bool} (tk : Takes X W) (hst : X.stack = X.env :: X.outer) (hfr : X.env.frame = some X.env.locals) (hc : X.calm = true) (hN : X.N.Nodup) (hi : DI X W tg iter fi) (ok : BlkOk X.N X.env.scope scope own)
    (hg : ∀ (s : Shared) (H : Hp) (C : Addr) (cl : List (Str × Addr)) (fp : List Addr), DG (X.blk s H scope (compEnvC scope cl C X.env) fp) W0 mask tg g) (ht : ∀ (s : Shared) (H : Hp) (C : Addr) (cl : List (Str × Addr)) (fp : List Addr), DTs (X.blk s H scope (compEnvC scope cl C X.env) fp) W0 ifs tt)
    (he : ∀ (σ0 : L2.St) (s : Shared) (H : Hp) (C : Addr) (cl : List (Str × Addr)) (fp : List Addr), DE (blkW X W σ0 s H scope (compEnvC scope cl C X.env) fp) (fun c d _ H2 => W c d σ0 H2) elt te) (hmk : maskOk X.N.length (own.map (·.2)) mask = true := by rfl) (hs : ∀ x, foldedSetIterable iter X.env x = pure x := by intro _; rfl) :
    DE X W (.ListComp elt [⟨tg, iter, ifs, 0⟩] scope pos) (fLcX fi g tt te (own.map (·.2))) :=
  ⟨⟨fun pins s σ H Q I h => (pe_lcX (wi := tDI X.K W fi) (g := tDG X.K W0 mask g) (tt := tDT X.K W0 tt) (te := fun σ0 => tD X.K (fun c d _ H2 => W c d σ0 H2) te) tk hst hfr hc hN hi.pi ok (fun s H C cl fp => (hg s H C cl fp).pg) (fun s H C cl fp => (ht s H C cl fp).pts) (fun σ0 s H C cl fp => (he σ0 s H C cl fp).pe) hs).run pins s σ H Q I (by
    obtain ⟨G, S, R, XR, l, rs, hF, hQ, hX⟩ := h
    exact ⟨G, S, _, XR, l, rs, hF, fun items S0 J P H1 l0 h0 sv rs0 => lcx_core (H := H) (by rw [I.len]; exact hmk) l0 h0 hX sv rs0 fun m S' v H' l' r rs' => hQ m S' v H' l' r (RS.dropL rs'), hX⟩)⟩⟩
theorem lcLX_by {g : FG} {tt : FT} {te : FE} {own : List Nat} {Kf : List D → List M → Prop} {XB : XM} (P : Nat → List D → List M → Prop) {ds : List D}
    (h : ∀ (i : Nat) (d : D) (acc : List D) (S : List M) (K : List D → List M → Prop), ds[i]? = some d → P i acc S → (∀ acc' S', P (i + 1) acc' S' → K acc' S') →
      g (.v d) S (fun S1 => tt S1 (fun b S2 => iteP b (te S2 (fun y S3 => asD y fun e => acc.length < sizeLine ∧ K (acc ++ [e]) (wipeM S3 own)) XB) (K acc (wipeM S2 own))) X0) X0)
    (he : ∀ acc S, P ds.length acc S → Kf acc S) : ∀ acc S, P 0 acc S → LcLX g tt te own Kf XB ds acc S := by
  have go : ∀ (n i : Nat), n = ds.length - i → i ≤ ds.length → ∀ acc S, P i acc S → lcLX g tt te own Kf XB (ds.drop i) acc S := by
    intro n
    induction n with
    | zero =>
      intro i hn hi acc S hP
      obtain rfl : i = ds.length := by omega
      rw [List.drop_length]
      exact he acc S hP
    | succ n ih =>
      intro i hn hi acc S hP
      have hl : i < ds.length := by omega
      rw [List.drop_eq_getElem_cons hl]
      exact h i ds[i] acc S (fun acc' S' => lcLX g tt te own Kf XB (ds.drop (i + 1)) acc' S') (List.getElem?_eq_getElem hl) hP fun acc' S' hP' => ih (i + 1) (by omega) (by omega) acc' S' hP'
  intro acc S hP
  exact ⟨by have q := go _ 0 rfl (Nat.zero_le _) acc S hP; rwa [List.drop_zero] at q⟩
end
end DM

/-! A method called in a comprehension's item: its exception passes out of the block. -/
namespace DM
open PySem PySem.Spec PyProof.Rows
open L2
variable [Tabs]
section
variable {X : Cx} {W : WX}
theorem de_mtW {n : Nat} {m : FM} {fo : FO} {fs : FOs} {pl : Sem Bool} {o : Expr} {C : Addr} {mn : Str} {k : Nat} {f : Addr} {fd : FuncData} {ps : List Str} {e : Expr} {es : List Expr} {pos apos : Pos} (ho : DO X W o fo) (c : Cls X.K C) (hm : Meth X.K C mn f) (F : FnOk X.prog X.w X.K X.mg X.base (L2.CX X.prog X.w) k f fd ps (spOf X.K n m)) (pa : ∀ σ, PassesAt (L2.CX X.prog X.w) X σ (WE W σ)) (hr : Room k X.A) (hb : Binds X.K fd ps []) (ha : DOs X W (e :: es) fs)
    (hst : starEach (e :: es) X.env = (false, eval e X.env) :: starEach es X.env := by rfl)
    (hpl : (backTo pos (starEach es X.env)).any (·.1) = false := by rfl)
    (ht : eval (.Call (.Attribute o mn apos) (e :: es) [] pos) X.env = (do
      let ov ← eval o X.env
      standAt apos.atName
      let (fv, first) ← holding [ov] (getMethod ov mn pl)
      callWith pos fv first (backTo pos (starEach (e :: es) X.env)) (backToKw pos (keywordEach [] X.env))) := by rfl) : DE X W (.Call (.Attribute o mn apos) (e :: es) [] pos) (fMt C mn m n fo fs) :=
  ⟨pe_le (pe_mtS (pl := pl) ho.pe c hm F hr hb pa ha.pa hst hpl ht) fun σ H Q h => by
    obtain ⟨G, S, R, XR, l, rs, hF, hQ, hX⟩ := h
    refine ⟨G, S, _, XR, l, rs, hF, fun a S1 v H1 l1 h1 ok1 rs1 => ?_, hX⟩
    have h1 := getD'_eq h1
    obtain ⟨b, dx, fls, e1, e2, e3⟩ := RS.objAt l1 ok1 rs1 h1.1
    refine ⟨b, dx, fls, e1, e2, e3, ?_⟩
    refine ⟨(some v, arM a) :: G, S1, _, XR, l1, rs1, h1.2, fun as S2 vs H2 l2 h2 ok2 rs2 => ?_, fun c fs S' d H' l' hx xo => hX c fs S' d H' l' hx xo.drop⟩
    have h2 := h2.ok
    have q := spOf_of (W := W) (as := a :: as) (vs := v :: vs) l2 ⟨ok1, ok2⟩ (RS.perm (perm_mid _ _ _) rs2) h2.2 hQ hX
    have en : (a :: as).length = n := Nat.eq_of_beq_eq_true h2.1
    rw [en] at q
    exact q⟩
end
end DM

namespace K61
open PySem PySem.Spec PyProof.Rows
open L2 DM
def topS (i : Nat) : Stmt :=
  PySem.Challenge.pw_translatory_k61_values_and_applications.main.body.getD i (.Pass ⟨0, 0, 0, 0⟩)
instance (priority := low) noTabs : Tabs := ⟨[]⟩
structure CA where
  c_Evaluation : Addr
  c_TooLong : Addr
  c_InvalidFunction : Addr
  c_BadArgument : Addr

/-- without zeros at the end -/
def strip (xs : List Int) : List Int := (xs.reverse.dropWhile (· == 0)).reverse
-- _law_strip is not called
/-- a is what is due -/
@[irreducible] def m__law_like : Nat → FM
  | 0 => fun _ _ _ => False
  | n + 1 => fun ms R _ => ∃ (a b : M) (d : D), ms = [a, b] ∧ asM a = some d ∧ asM b = some d ∧ Pl true (n + 1) d ∧ R (.v (.bl true)) ms
def Draws (n : Nat) (xs : List Int) : Prop := xs.length = n ∧ ∀ x ∈ xs, 0 ≤ x ∧ x < 4096
@[irreducible] def m__law_cell : FM := fun ms R XR => ∃ (ns : List Int) (k : Int), ms = [.v (.lst (ns.map D.int)), .v (.int k)] ∧ (0 ≤ k) ∧ (∀ c, 0 ≤ c → R (.v (.int c)) [.v (.lst (ns.map D.int)), .v (.int k)])
@[irreducible] def m__law_draws : FM := fun ms R XR => ∃ (c n : Int), ms = [.v (.int c), .v (.int n)] ∧ (0 ≤ c) ∧ (0 ≤ n) ∧ (n ≤ 1000) ∧ (∀ xs, Draws n.toNat xs → R (.ml (xs.map D.int)) [.v (.int c), .v (.int n)])
/-! ### functions as rows -/
abbrev zeroD (a : Int) : D := .tup [.str "zero", .int a]
abbrev argD (a i : Int) : D := .tup [.str "arg", .int a, .int i]
abbrev nextD : D := .tup [.str "next"]
abbrev ofD (f : D) (gs : List D) : D := .tup [.str "of", f, .tup gs]
abbrev repD (f g : D) : D := .tup [.str "repeat", f, g]
abbrev leastD (f : D) : D := .tup [.str "least", f]
/-- a function's form, of a depth of at most n -/
def Fd : Nat → D → Prop
  | 0, _ => False
  | n + 1, d => (∃ a, d = zeroD a) ∨ (∃ a i, d = argD a i) ∨ d = nextD ∨ (∃ f gs, d = ofD f gs ∧ gs.length ≤ 2 ∧ Fd n f ∧ ∀ g ∈ gs, Fd n g) ∨ (∃ f g, d = repD f g ∧ Fd n f ∧ Fd n g) ∨ (∃ f, d = leastD f ∧ Fd n f)
def kindD : D → Str
  | .tup (.str s :: _) => s
  | _ => ""
def restD : D → List D
  | .tup (_ :: r) => r
  | _ => []
def innerD : List D → List D
  | [_, .tup gs] => gs
  | _ => []
def partsD (d : D) : List D := if kindD d = "of" then (restD d).take 1 ++ innerD (restD d) else if kindD d = "repeat" ∨ kindD d = "least" then restD d else []
def deepD : Nat → D → Int
  | 0, _ => 0
  | n + 1, d => 1 + ((partsD d).map (deepD n)).foldl max 0
def countD : Nat → D → Int
  | 0, _ => 0
  | n + 1, d => 1 + ((partsD d).map (countD n)).sum
def numD0 : D → Int
  | .int a => a
  | _ => 0
/-- the number of arguments, where it stands -/
def Ar : Nat → D → Int → Prop
  | 0, _, _ => False
  | n + 1, d, v => (d = zeroD v) ∨ (∃ i, d = argD v i) ∨ (d = nextD ∧ v = 1) ∨ (∃ f g gs, d = ofD f (g :: gs) ∧ Ar n g v) ∨ (∃ f g w, d = repD f g ∧ Ar n f w ∧ v = w + 1) ∨ (∃ f w, d = leastD f ∧ Ar n f w ∧ v = w - 1)
def arD : Nat → D → Int
  | 0, _ => 0
  | n + 1, d => if kindD d = "zero" ∨ kindD d = "arg" then numD0 ((restD d).headD .non) else if kindD d = "next" then 1 else if kindD d = "of" then arD n ((innerD (restD d)).headD .non) else if kindD d = "repeat" then arD n ((restD d).headD .non) + 1 else arD n ((restD d).headD .non) - 1
abbrev ar (d : D) : Int := arD 17 d
def locD (d : D) : Bool :=
  if kindD d = "zero" then decide (0 ≤ numD0 ((restD d).headD .non) ∧ numD0 ((restD d).headD .non) ≤ 6)
  else if kindD d = "arg" then decide ((1 ≤ numD0 ((restD d).headD .non) ∧ numD0 ((restD d).headD .non) ≤ 6) ∧ 0 ≤ numD0 ((restD d).getD 1 .non) ∧ numD0 ((restD d).getD 1 .non) < numD0 ((restD d).headD .non))
  else if kindD d = "next" then true
  else if kindD d = "of" then decide (innerD (restD d) ≠ []) && (decide (ar ((restD d).headD .non) = ((innerD (restD d)).length : Nat)) && (innerD (restD d)).all fun g => decide (ar g = ar ((innerD (restD d)).headD .non)))
  else if kindD d = "repeat" then decide (ar ((restD d).headD .non) < 6) && decide (ar ((restD d).getD 1 .non) = ar ((restD d).headD .non) + 2)
  else decide (1 ≤ ar ((restD d).headD .non))
def rightD : Nat → D → Bool
  | 0, _ => false
  | n + 1, d => (partsD d).all (rightD n) && locD d
def isF (d : D) : Bool := decide (deepD 18 d ≤ 12) && (decide (countD 18 d ≤ 200) && rightD 18 d)
@[irreducible] def m_parts : FM := fun ms R XR => ∃ (n : Nat) (d : D), ms = [.v d] ∧ (Fd (n + 1) d) ∧ (R (.ml (partsD d)) [.v d])
@[irreducible] def m__law_pieces : FM := fun ms R XR => ∃ (n : Nat) (d : D), ms = [.v d] ∧ (Fd (n + 1) d) ∧ (R (.ml (partsD d)) [.v d])
@[irreducible] def m_depth : Nat → FM
  | 0 => fun _ _ _ => False
  | n + 1 => fun ms R _ => ∃ d, ms = [.v d] ∧ Fd (n + 1) d ∧ R (.v (.int (deepD (n + 1) d))) ms
@[irreducible] def m__law_deep : Nat → FM
  | 0 => fun _ _ _ => False
  | n + 1 => fun ms R _ => ∃ d, ms = [.v d] ∧ Fd (n + 1) d ∧ R (.v (.int (deepD (n + 1) d))) ms
@[irreducible] def m_count_parts : Nat → FM
  | 0 => fun _ _ _ => False
  | n + 1 => fun ms R _ => ∃ d, ms = [.v d] ∧ Fd (n + 1) d ∧ R (.v (.int (countD (n + 1) d))) ms
@[irreducible] def m__law_count : Nat → FM
  | 0 => fun _ _ _ => False
  | n + 1 => fun ms R _ => ∃ d, ms = [.v d] ∧ Fd (n + 1) d ∧ R (.v (.int (countD (n + 1) d))) ms
@[irreducible] def m_arity : Nat → FM
  | 0 => fun _ _ _ => False
  | n + 1 => fun ms R _ => ∃ d v, ms = [.v d] ∧ Ar (n + 1) d v ∧ R (.v (.int v)) ms
@[irreducible] def m__law_arity : Nat → FM
  | 0 => fun _ _ _ => False
  | n + 1 => fun ms R _ => ∃ d v, ms = [.v d] ∧ Ar (n + 1) d v ∧ R (.v (.int v)) ms
@[irreducible] def m_has_right_arities : Nat → FM
  | 0 => fun _ _ _ => False
  | n + 1 => fun ms R _ => ∃ d, ms = [.v d] ∧ n ≤ 17 ∧ Fd (n + 1) d ∧ R (.v (.bl (rightD (n + 1) d))) ms
@[irreducible] def m__law_fits_well : Nat → FM
  | 0 => fun _ _ _ => False
  | n + 1 => fun ms R _ => ∃ d, ms = [.v d] ∧ n ≤ 17 ∧ Fd (n + 1) d ∧ R (.v (.bl (rightD (n + 1) d))) ms
@[irreducible] def m_is_function : FM := fun ms R XR => ∃ (d : D), ms = [.v d] ∧ (Fd 18 d) ∧ (R (.v (.bl (isF d))) [.v d])
@[irreducible] def m__law_is_fun : FM := fun ms R XR => ∃ (d : D), ms = [.v d] ∧ (Fd 18 d) ∧ (R (.v (.bl (isF d))) [.v d])
-- _law_spoilt_fun is not called

/-! ### functions whose arities fit -/
/-- a function of m arguments, of a depth of at most n -/
def Td : Nat → Nat → D → Prop
  | 0, _, _ => False
  | n + 1, m, d => (d = zeroD m ∧ m ≤ 6) ∨ (∃ i : Nat, d = argD m i ∧ i < m ∧ m ≤ 6) ∨ (d = nextD ∧ m = 1) ∨ (∃ f gs, d = ofD f gs ∧ 0 < gs.length ∧ gs.length ≤ 2 ∧ Td n gs.length f ∧ ∀ g ∈ gs, Td n m g) ∨ (∃ f g k, d = repD f g ∧ m = k + 1 ∧ k < 6 ∧ Td n k f ∧ Td n (k + 2) g) ∨ (∃ f, d = leastD f ∧ Td n (m + 1) f)
def cbN : Nat → Int
  | 0 => 0
  | n + 1 => 1 + 3 * cbN n
/-! ### functions evaluated -/
def apL (f : D → List Int → Nat → Option (Int × Nat)) : List D → List Int → Nat → Option (List Int × Nat)
  | [], _, l => some ([], l)
  | g :: gs, xs, l => (f g xs l).bind fun r => (apL f gs xs r.2).bind fun q => some (r.1 :: q.1, q.2)
def apR (f : List Int → Nat → Option (Int × Nat)) (xs : List Int) : Nat → Nat → Int × Nat → Option (Int × Nat)
  | 0, _, r => some r
  | c + 1, k, r => (f ((k : Int) :: r.1 :: xs) r.2).bind fun q => apR f xs c (k + 1) q
def apM (f : List Int → Nat → Option (Int × Nat)) (xs : List Int) : Nat → Nat → Nat → Option (Int × Nat)
  | 0, _, _ => none
  | m + 1, k, l => (f ((k : Int) :: xs) l).bind fun q => if q.1 = 0 then some ((k : Int), q.2) else apM f xs m (k + 1) q.2
/-- the value of a function, and how many applications are left of l; nothing where they do not suffice -/
def ap : Nat → D → List Int → Nat → Option (Int × Nat)
  | 0, _, _, _ => none
  | _ + 1, _, _, 0 => none
  | n + 1, d, xs, l + 1 =>
    if kindD d = "zero" then some (0, l)
    else if kindD d = "next" then xs.head?.bind fun x => some (x + 1, l)
    else if kindD d = "arg" then (if 0 ≤ numD0 ((restD d).getD 1 .non) then xs[(numD0 ((restD d).getD 1 .non)).toNat]?.bind fun x => some (x, l) else none)
    else if kindD d = "of" then (apL (ap n) (innerD (restD d)) xs l).bind fun r => ap n ((restD d).headD .non) r.1 r.2
    else if kindD d = "repeat" then xs.head?.bind fun x => if 0 ≤ x then (ap n ((restD d).headD .non) xs.tail l).bind fun r => apR (ap n ((restD d).getD 1 .non)) xs.tail x.toNat 0 r else none
    else apM (ap n ((restD d).headD .non)) xs (l + 1) 0 l
/-! ### how many applications are left -/
/-- what is left of another number of applications -/
def Sh {α : Type} (f : Nat → Option (α × Nat)) : Prop := ∀ b v l, f b = some (v, l) → l ≤ b ∧ ∀ c, (b ≤ c + l → f c = some (v, c + l - b)) ∧ (c + l < b → f c = none)
/-! ### functions evaluated, with their limits -/
def evO (ca : CA) (lim c : Int) : M := .mo ca.c_Evaluation ["limit", "count"] [.v (.int lim), .v (.int c)]
def Vb (l : Nat) (x : Int) : Prop := 0 ≤ x ∧ x + l ≤ 3000000
def evK (ca : CA) (lim : Int) (d : D) (xs : List Int) (R : RMx) (XR : XM) : Option (Int × Nat) → Prop
  | some r => R (.v (.int r.1)) [evO ca lim (lim - r.2), .v d, .v (.tup (xs.map D.int))]
  | none => XR (.ref ca.c_TooLong, some [("limit", .int lim)]) [evO ca lim (lim + 1), .v d, .v (.tup (xs.map D.int))]
def lpK (d : D) (xs : List Int) (R : RMx) : Option (Int × Nat) → Prop
  | some r => ∀ x, R (.ml [.int r.1, .int r.2]) [.v d, .v (.tup (xs.map D.int)), x]
  | none => ∀ x, R (.v .non) [.v d, .v (.tup (xs.map D.int)), x]
def apO : Option (Int × Nat) → M
  | some r => .ml [.int r.1, .int r.2]
  | none => .v .non
@[irreducible] def m_Evaluation___init__ (ca : CA) : FM := fun ms R XR => ∃ (n : Int), ms = [.mo ca.c_Evaluation [] [], .v (.int n)] ∧ (R (.v .non) [evO ca n 0, .v (.int n)])
@[irreducible] def m_Evaluation_apply (ca : CA) : Nat → FM
  | 0 => fun _ _ _ => False
  | n + 1 => fun ms R XR => ∃ (d : D) (xs : List Int) (lim : Int) (b : Nat), ms = [evO ca lim (lim - b), .v d, .v (.tup (xs.map D.int))] ∧ Td (n + 1) xs.length d ∧ (∀ x ∈ xs, Vb b x) ∧ (xs.length + n ≤ 1000 ∧ n ≤ 900 ∧ b ≤ 1000000 ∧ 0 ≤ lim ∧ lim ≤ 1000000) ∧ evK ca lim d xs R XR (ap (n + 1) d xs b)
@[irreducible] def m__law_apply : Nat → FM
  | 0 => fun _ _ _ => False
  | n + 1 => fun ms R _ => ∃ (d : D) (xs : List Int) (b : Nat), ms = [.v d, .v (.tup (xs.map D.int)), .v (.int b)] ∧ Td (n + 1) xs.length d ∧ (∀ x ∈ xs, Vb b x) ∧ (xs.length + n ≤ 1000 ∧ n ≤ 900 ∧ b ≤ 1000000) ∧ lpK d xs R (ap (n + 1) d xs b)
@[irreducible] def m_check_arguments (ca : CA) : FM := fun ms R XR => ∃ (d : D) (xs : List Int), ms = [.v d, .v (.tup (xs.map D.int))] ∧ (Td 18 xs.length d) ∧ (isF d = true) ∧ (∀ x ∈ xs, 0 ≤ x) ∧ (R (.v .non) [.v d, .v (.tup (xs.map D.int))])
@[irreducible] def m_evaluated (ca : CA) : FM := fun ms R XR => ∃ (d : D) (xs : List Int) (b : Nat), ms = [.v d, .v (.tup (xs.map D.int)), .v (.int b)] ∧ (Td 18 xs.length d) ∧ (isF d = true) ∧ (∀ x ∈ xs, 0 ≤ x ∧ x ≤ 1000) ∧ (xs.length ≤ 6) ∧ (b ≤ 1000000) ∧ ((∀ v l, ap 18 d xs b = some (v, l) → R (.v (.tup [.int v, .int (b - l)])) [.v d, .v (.tup (xs.map D.int)), .v (.int b)]) ∧ (ap 18 d xs b = none → XR (.ref ca.c_TooLong, some [("limit", .int b)]) [.v d, .v (.tup (xs.map D.int)), .v (.int b)]))
@[irreducible] def m_value (ca : CA) : FM := fun ms R XR => ∃ (d : D) (xs : List Int) (b : Nat), ms = [.v d, .v (.tup (xs.map D.int)), .v (.int b)] ∧ (Td 18 xs.length d) ∧ (isF d = true) ∧ (∀ x ∈ xs, 0 ≤ x ∧ x ≤ 1000) ∧ (xs.length ≤ 6) ∧ (b ≤ 1000000) ∧ ((∀ v l, ap 18 d xs b = some (v, l) → R (.v (.int v)) [.v d, .v (.tup (xs.map D.int)), .v (.int b)]) ∧ (ap 18 d xs b = none → XR (.ref ca.c_TooLong, some [("limit", .int b)]) [.v d, .v (.tup (xs.map D.int)), .v (.int b)]))
@[irreducible] def m_applications (ca : CA) : FM := fun ms R XR => ∃ (d : D) (xs : List Int) (b : Nat), ms = [.v d, .v (.tup (xs.map D.int)), .v (.int b)] ∧ (Td 18 xs.length d) ∧ (isF d = true) ∧ (∀ x ∈ xs, 0 ≤ x ∧ x ≤ 1000) ∧ (xs.length ≤ 6) ∧ (b ≤ 1000000) ∧ ((∀ v l, ap 18 d xs b = some (v, l) → R (.v (.int (b - l))) [.v d, .v (.tup (xs.map D.int)), .v (.int b)]) ∧ (ap 18 d xs b = none → XR (.ref ca.c_TooLong, some [("limit", .int b)]) [.v d, .v (.tup (xs.map D.int)), .v (.int b)]))

/-! ### drawn functions, their arities -/
@[irreducible] def m__law_fun : Nat → FM
  | 0 => fun _ _ _ => False
  | n + 1 => fun ms R _ => ∃ (xs : List Int) (i many k : Int), ms = [.ml (xs.map D.int), .v (.int i), .v (.int many), .v (.int k)] ∧ (0 < xs.length ∧ xs.length ≤ 1000 ∧ ∀ x ∈ xs, 0 ≤ x) ∧ 0 ≤ i ∧ (0 ≤ many ∧ many + k ≤ 7 ∧ 1 ≤ k ∧ k ≤ 5) ∧ k ≤ n + 1 ∧ ∀ d, Td (n + 1) many.toNat d → R (.v d) ms
def toldD (w : Int) (b : Nat) : Option (Int × Nat) → D
  | none => .tup [.str "long", .int b]
  | some r => .tup [.str "value", .int (if w = 0 then r.1 else (b : Int) - r.2)]
@[irreducible] def m__law_told (ca : CA) : FM := fun ms R XR => ∃ (d : D) (xs : List Int) (b : Nat) (w : Int), ms = [.v d, .v (.tup (xs.map D.int)), .v (.int b), .v (.int w)] ∧ (Td 18 xs.length d) ∧ (isF d = true) ∧ (∀ x ∈ xs, 0 ≤ x ∧ x ≤ 1000) ∧ (xs.length ≤ 6) ∧ (b ≤ 1000000) ∧ (R (.v (toldD w b (ap 18 d xs b))) [.v d, .v (.tup (xs.map D.int)), .v (.int b), .v (.int w)])
@[irreducible] def m_law : FM := fun ms R XR => ∃ (ns : List Int), ms = [.v (.lst (ns.map D.int))] ∧ (ns.length ≤ 63) ∧ (∀ ms', R (.v (.bl true)) ms')

abbrev st__law_cell : Stmt := topS 21
abbrev N__law_cell : List Str := ["_law_script", "_law_k"]
abbrev mask__law_cell : List Bool := [true, true]
/- slots: 0 _law_script, 1 _law_k -/
def b__law_cell : FS := sSeq (sIf (tOf (f2 ltB (oM (fV 1)) (oM (fB lenB (osCons (oM (fV 0)) (osNil)))))) (sRt (fB absB (osCons (oM (fB intB (osCons (oM (f2 ixB (oM (fV 0)) (oM (fV 1)))) (osNil)))) (osNil)))) (sNx)) (sRt (fC (.int 0)))
abbrev st__law_draws : Stmt := topS 22
abbrev N__law_draws : List Str := ["_law_cell_here", "_law_count_here", "_law_rows", "_law_left", "_law_k", "_law_mixed"]
abbrev mask__law_draws : List Bool := [true, true]
/- slots: 0 _law_cell_here, 1 _law_count_here, 2 _law_rows, 3 _law_left, 4 _law_k, 5 _law_mixed -/
def b__law_draws : FS := sSeq (sSet 2 (fLst (faNil))) (sSeq (sSet 3 (fV 0)) (sSeq (sFor (iR1 (faCons (fV 1) (faNil))) (gNm 4) (sIf (tA2 (tOf (f2 geB (oM (fV 0)) (oM (f2 powB (oM (fC (.int 10))) (oM (fC (.int 18))))))) (tOf (f2 gtB (oM (fV 3)) (oM (fC (.int 0)))))) (sSeq (sEx (fML appendB (oN 2) (osCons (oM (f2 modB (oM (fB intB (osCons (oM (fV 3)) (osNil)))) (oM (fC (.int 4096))))) (osNil)))) (sSet 3 (f2 divB (oM (fV 3)) (oM (fC (.int 4096)))))) (sSeq (sSet 5 (f2 modB (oM (fB intB (osCons (oM (f2 addB (oM (f2 mulB (oM (fV 0)) (oM (fC (.int 48271))))) (oM (f2 mulB (oM (f2 addB (oM (fV 4)) (oM (fC (.int 1))))) (oM (fC (.int 69621))))))) (osNil)))) (oM (fC (.int 2147483647))))) (sSeq (sSet 5 (f2 modB (oM (fB intB (osCons (oM (f2 addB (oM (f2 addB (oM (f2 mulB (oM (fV 5)) (oM (fV 5)))) (oM (f2 mulB (oM (fV 5)) (oM (fC (.int 16807))))))) (oM (f2 mulB (oM (fV 4)) (oM (fC (.int 7919))))))) (osNil)))) (oM (fC (.int 2147483629))))) (sSeq (sSet 5 (f2 modB (oM (fB intB (osCons (oM (f2 addB (oM (f2 addB (oM (f2 mulB (oM (fV 5)) (oM (fV 5)))) (oM (fV 0)))) (oM (f2 mulB (oM (fC (.int 13))) (oM (fV 4)))))) (osNil)))) (oM (fC (.int 2147483587))))) (sEx (fML appendB (oN 2) (osCons (oM (f2 modB (oM (f2 divB (oM (fV 5)) (oM (fC (.int 7))))) (oM (fC (.int 4096))))) (osNil))))))))) (sRt (fMv 2))))
abbrev st__law_fun : Stmt := topS 24
abbrev N__law_fun : List Str := ["_law_draws_here", "_law_at", "_law_many", "_law_deep_here", "_law_draw", "_law_way", "_law_count_here", "_law_inner", "_law_k"]
abbrev mask__law_fun : List Bool := [true, true, true, true]
/- slots: 0 _law_draws_here, 1 _law_at, 2 _law_many, 3 _law_deep_here, 4 _law_draw, 5 _law_way, 6 _law_count_here, 7 _law_inner, 8 _law_k -/
def b__law_fun_5 (mself : FM) : FS := sRt (fTup (faCons (fC (.str "least")) (faCons (fCall mself 4 (osCons (oN 0) (osCons (oM (f2 addB (oM (f2 mulB (oM (fC (.int 5))) (oM (fV 1)))) (oM (fC (.int 6))))) (osCons (oM (f2 addB (oM (fV 2)) (oM (fC (.int 1))))) (osCons (oM (f2 subB (oM (fV 3)) (oM (fC (.int 1))))) (osNil)))))) (faNil))))
def b__law_fun_4 (mself : FM) : FS := sSeq (sIf (tA2 (tOf (f2 ltB (oM (fV 5)) (oM (fC (.int 8))))) (tOf (f2 gtB (oM (fV 2)) (oM (fC (.int 0)))))) (sRt (fTup (faCons (fC (.str "repeat")) (faCons (fCall mself 4 (osCons (oN 0) (osCons (oM (f2 addB (oM (f2 mulB (oM (fC (.int 5))) (oM (fV 1)))) (oM (fC (.int 4))))) (osCons (oM (f2 subB (oM (fV 2)) (oM (fC (.int 1))))) (osCons (oM (f2 subB (oM (fV 3)) (oM (fC (.int 1))))) (osNil)))))) (faCons (fCall mself 4 (osCons (oN 0) (osCons (oM (f2 addB (oM (f2 mulB (oM (fC (.int 5))) (oM (fV 1)))) (oM (fC (.int 8))))) (osCons (oM (f2 addB (oM (fV 2)) (oM (fC (.int 1))))) (osCons (oM (f2 subB (oM (fV 3)) (oM (fC (.int 1))))) (osNil)))))) (faNil)))))) (sNx)) (sPc (b__law_fun_5 mself))
def b__law_fun_3 (mself : FM) : FS := sSeq (sIf (tO2 (tOf (f2 ltB (oM (fV 5)) (oM (fC (.int 5))))) (tA2 (tOf (f2 eqB (oM (fV 2)) (oM (fC (.int 0))))) (tOf (f2 ltB (oM (fV 5)) (oM (fC (.int 7))))))) (sSeq (sSet 6 (f2 addB (oM (fC (.int 1))) (oM (f2 modB (oM (f2 divB (oM (fV 4)) (oM (fC (.int 9))))) (oM (fC (.int 2))))))) (sSeq (sSet 7 (fB tupleB (osCons (oM (fLc (iR1 (faCons (fV 6) (faNil))) (gNm 8) (tTrue) (fCall mself 4 (osCons (oN 0) (osCons (oM (f2 addB (oM (f2 addB (oM (f2 mulB (oM (fC (.int 5))) (oM (fV 1)))) (oM (fC (.int 3))))) (oM (fV 8)))) (osCons (oM (fV 2)) (osCons (oM (f2 subB (oM (fV 3)) (oM (fC (.int 1))))) (osNil)))))) [8])) (osNil)))) (sRt (fTup (faCons (fC (.str "of")) (faCons (fCall mself 4 (osCons (oN 0) (osCons (oM (f2 addB (oM (f2 mulB (oM (fC (.int 5))) (oM (fV 1)))) (oM (fC (.int 9))))) (osCons (oM (fV 6)) (osCons (oM (f2 subB (oM (fV 3)) (oM (fC (.int 1))))) (osNil)))))) (faCons (fV 7) (faNil)))))))) (sNx)) (sPc (b__law_fun_4 mself))
def b__law_fun_2 (mself : FM) : FS := sSeq (sIf (tO2 (tOf (f2 ltB (oM (fV 3)) (oM (fC (.int 2))))) (tOf (f2 ltB (oM (fV 5)) (oM (fC (.int 2)))))) (sSeq (sIf (tA2 (tOf (f2 eqB (oM (fV 2)) (oM (fC (.int 1))))) (tOf (f2 eqB (oM (f2 modB (oM (f2 divB (oM (fV 4)) (oM (fC (.int 9))))) (oM (fC (.int 3))))) (oM (fC (.int 0)))))) (sRt (fTup (faCons (fC (.str "next")) (faNil)))) (sNx)) (sSeq (sIf (tA2 (tOf (f2 gtB (oM (fV 2)) (oM (fC (.int 0))))) (tOf (f2 gtB (oM (f2 modB (oM (f2 divB (oM (fV 4)) (oM (fC (.int 9))))) (oM (fC (.int 4))))) (oM (fC (.int 0)))))) (sRt (fTup (faCons (fC (.str "arg")) (faCons (fV 2) (faCons (f2 modB (oM (f2 divB (oM (fV 4)) (oM (fC (.int 36))))) (oM (fV 2))) (faNil)))))) (sNx)) (sRt (fTup (faCons (fC (.str "zero")) (faCons (fV 2) (faNil))))))) (sNx)) (sPc (b__law_fun_3 mself))
def b__law_fun_1 (mself : FM) : FS := sSeq (sSet 5 (f2 modB (oM (fV 4)) (oM (fC (.int 9))))) (sPc (b__law_fun_2 mself))
def b__law_fun (mself : FM) : FS := sSeq (sSet 4 (f2 addB (oM (f2 ixB (oN 0) (oM (f2 modB (oM (fV 1)) (oM (fB lenB (osCons (oN 0) (osNil)))))))) (oM (f2 mulB (oM (fC (.int 17))) (oM (fV 1)))))) (sPc (b__law_fun_1 mself))
abbrev st__law_pieces : Stmt := topS 25
abbrev N__law_pieces : List Str := ["_law_thing"]
abbrev mask__law_pieces : List Bool := [true]
/- slots: 0 _law_thing -/
def b__law_pieces : FS := sSeq (sIf (tOf (f2 eqB (oM (f2 ixB (oM (fV 0)) (oM (fC (.int 0))))) (oM (fC (.str "of"))))) (sRt (f2 addB (oM (fLst (faCons (f2 ixB (oM (fV 0)) (oM (fC (.int 1)))) (faNil)))) (oM (fB listB (osCons (oM (f2 ixB (oM (fV 0)) (oM (fC (.int 2))))) (osNil)))))) (sNx)) (sSeq (sIf (tOf (f2 (memB false) (oM (f2 ixB (oM (fV 0)) (oM (fC (.int 0))))) (oM (fTup (faCons (fC (.str "repeat")) (faCons (fC (.str "least")) (faNil))))))) (sRt (fB listB (osCons (oM (fSl (oM (fV 0)) (pSome (fC (.int 1))) (pNo))) (osNil)))) (sNx)) (sRt (fLst (faNil))))
abbrev st__law_deep : Stmt := topS 27
abbrev N__law_deep : List Str := ["_law_thing", "_law_most", "_law_part"]
abbrev mask__law_deep : List Bool := [true]
/- slots: 0 _law_thing, 1 _law_most, 2 _law_part -/
def b__law_deep (mself : FM) : FS := sSeq (sSet 1 (fC (.int 0))) (sSeq (sFor (iVal (fCall m__law_pieces 1 (osCons (oM (fV 0)) (osNil)))) (gNm 2) (sSet 1 (fB maxB (osCons (oM (fV 1)) (osCons (oM (fCall mself 1 (osCons (oM (fV 2)) (osNil)))) (osNil)))))) (sRt (f2 addB (oM (fV 1)) (oM (fC (.int 1))))))
abbrev st__law_count : Stmt := topS 28
abbrev N__law_count : List Str := ["_law_thing", "_law_total", "_law_part"]
abbrev mask__law_count : List Bool := [true]
/- slots: 0 _law_thing, 1 _law_total, 2 _law_part -/
def b__law_count (mself : FM) : FS := sSeq (sSet 1 (fC (.int 1))) (sSeq (sFor (iVal (fCall m__law_pieces 1 (osCons (oM (fV 0)) (osNil)))) (gNm 2) (sSet 1 (f2 addB (oM (fV 1)) (oM (fCall mself 1 (osCons (oM (fV 2)) (osNil))))))) (sRt (fV 1)))
abbrev st__law_arity : Stmt := topS 26
abbrev N__law_arity : List Str := ["_law_thing", "_law_word"]
abbrev mask__law_arity : List Bool := [true]
/- slots: 0 _law_thing, 1 _law_word -/
def b__law_arity_5 (mself : FM) : FS := sRt (f2 subB (oM (fCall mself 1 (osCons (oM (f2 ixB (oM (fV 0)) (oM (fC (.int 1))))) (osNil)))) (oM (fC (.int 1))))
def b__law_arity_4 (mself : FM) : FS := sSeq (sIf (tOf (f2 eqB (oM (fV 1)) (oM (fC (.str "repeat"))))) (sRt (f2 addB (oM (fCall mself 1 (osCons (oM (f2 ixB (oM (fV 0)) (oM (fC (.int 1))))) (osNil)))) (oM (fC (.int 1))))) (sNx)) (sPc (b__law_arity_5 mself))
def b__law_arity_3 (mself : FM) : FS := sSeq (sIf (tOf (f2 eqB (oM (fV 1)) (oM (fC (.str "of"))))) (sSeq (sIf (tOf (f2 eqB (oM (fB lenB (osCons (oM (f2 ixB (oM (fV 0)) (oM (fC (.int 2))))) (osNil)))) (oM (fC (.int 0))))) (sRt (f1 negB (oM (fC (.int 99))))) (sNx)) (sRt (fCall mself 1 (osCons (oM (f2 ixB (oM (f2 ixB (oM (fV 0)) (oM (fC (.int 2))))) (oM (fC (.int 0))))) (osNil))))) (sNx)) (sPc (b__law_arity_4 mself))
def b__law_arity_2 (mself : FM) : FS := sSeq (sIf (tOf (f2 eqB (oM (fV 1)) (oM (fC (.str "next"))))) (sRt (fC (.int 1))) (sNx)) (sPc (b__law_arity_3 mself))
def b__law_arity_1 (mself : FM) : FS := sSeq (sIf (tOf (f2 (memB false) (oM (fV 1)) (oM (fTup (faCons (fC (.str "zero")) (faCons (fC (.str "arg")) (faNil))))))) (sRt (f2 ixB (oM (fV 0)) (oM (fC (.int 1))))) (sNx)) (sPc (b__law_arity_2 mself))
def b__law_arity (mself : FM) : FS := sSeq (sSet 1 (f2 ixB (oM (fV 0)) (oM (fC (.int 0))))) (sPc (b__law_arity_1 mself))
abbrev st__law_fits_well : Stmt := topS 29
abbrev N__law_fits_well : List Str := ["_law_thing", "_law_word", "_law_part"]
abbrev mask__law_fits_well : List Bool := [true]
/- slots: 0 _law_thing, 1 _law_word, 2 _law_part -/
def b__law_fits_well_7 (mself : FM) : FS := sRt (f2 geB (oM (fCall (m__law_arity 18) 1 (osCons (oM (f2 ixB (oM (fV 0)) (oM (fC (.int 1))))) (osNil)))) (oM (fC (.int 1))))
def b__law_fits_well_6 (mself : FM) : FS := sSeq (sIf (tOf (f2 eqB (oM (fV 1)) (oM (fC (.str "repeat"))))) (sRt (vA2 (f2 leB (oM (fCall (m__law_arity 18) 1 (osCons (oM (f2 ixB (oM (fV 0)) (oM (fC (.int 1))))) (osNil)))) (oM (fC (.int 5)))) (f2 eqB (oM (fCall (m__law_arity 18) 1 (osCons (oM (f2 ixB (oM (fV 0)) (oM (fC (.int 2))))) (osNil)))) (oM (f2 addB (oM (fCall (m__law_arity 18) 1 (osCons (oM (f2 ixB (oM (fV 0)) (oM (fC (.int 1))))) (osNil)))) (oM (fC (.int 2)))))))) (sNx)) (sPc (b__law_fits_well_7 mself))
def b__law_fits_well_5 (mself : FM) : FS := sSeq (sIf (tOf (f2 eqB (oM (fV 1)) (oM (fC (.str "of"))))) (sSeq (sIf (tO2 (tOf (f2 eqB (oM (fB lenB (osCons (oM (f2 ixB (oM (fV 0)) (oM (fC (.int 2))))) (osNil)))) (oM (fC (.int 0))))) (tOf (f2 neB (oM (fCall (m__law_arity 18) 1 (osCons (oM (f2 ixB (oM (fV 0)) (oM (fC (.int 1))))) (osNil)))) (oM (fB lenB (osCons (oM (f2 ixB (oM (fV 0)) (oM (fC (.int 2))))) (osNil))))))) (sRt (fC (.bl false))) (sNx)) (sRt (f2 eqB (oM (fB lenB (osCons (oM (fLc (iVal (f2 ixB (oM (fV 0)) (oM (fC (.int 2))))) (gNm 2) (tOf (f2 neB (oM (fCall (m__law_arity 18) 1 (osCons (oM (fV 2)) (osNil)))) (oM (fCall (m__law_arity 18) 1 (osCons (oM (f2 ixB (oM (f2 ixB (oM (fV 0)) (oM (fC (.int 2))))) (oM (fC (.int 0))))) (osNil)))))) (fV 2) [2])) (osNil)))) (oM (fC (.int 0)))))) (sNx)) (sPc (b__law_fits_well_6 mself))
def b__law_fits_well_4 (mself : FM) : FS := sSeq (sFor (iVal (fCall m__law_pieces 1 (osCons (oM (fV 0)) (osNil)))) (gNm 2) (sIf (tNt (tOf (fCall mself 1 (osCons (oM (fV 2)) (osNil))))) (sRt (fC (.bl false))) (sNx))) (sPc (b__law_fits_well_5 mself))
def b__law_fits_well_3 (mself : FM) : FS := sSeq (sIf (tOf (f2 eqB (oM (fV 1)) (oM (fC (.str "next"))))) (sRt (fC (.bl true))) (sNx)) (sPc (b__law_fits_well_4 mself))
def b__law_fits_well_2 (mself : FM) : FS := sSeq (sIf (tOf (f2 eqB (oM (fV 1)) (oM (fC (.str "arg"))))) (sRt (vA2 (f2 leB (oM (fC (.int 1))) (oM (f2 ixB (oM (fV 0)) (oM (fC (.int 1)))))) (vA2 (f2 leB (oM (f2 ixB (oM (fV 0)) (oM (fC (.int 1))))) (oM (fC (.int 6)))) (vA2 (f2 leB (oM (fC (.int 0))) (oM (f2 ixB (oM (fV 0)) (oM (fC (.int 2)))))) (f2 ltB (oM (f2 ixB (oM (fV 0)) (oM (fC (.int 2))))) (oM (f2 ixB (oM (fV 0)) (oM (fC (.int 1)))))))))) (sNx)) (sPc (b__law_fits_well_3 mself))
def b__law_fits_well_1 (mself : FM) : FS := sSeq (sIf (tOf (f2 eqB (oM (fV 1)) (oM (fC (.str "zero"))))) (sRt (vA2 (f2 leB (oM (fC (.int 0))) (oM (f2 ixB (oM (fV 0)) (oM (fC (.int 1)))))) (f2 leB (oM (f2 ixB (oM (fV 0)) (oM (fC (.int 1))))) (oM (fC (.int 6)))))) (sNx)) (sPc (b__law_fits_well_2 mself))
def b__law_fits_well (mself : FM) : FS := sSeq (sSet 1 (f2 ixB (oM (fV 0)) (oM (fC (.int 0))))) (sPc (b__law_fits_well_1 mself))
abbrev st__law_is_fun : Stmt := topS 30
abbrev N__law_is_fun : List Str := ["_law_thing"]
abbrev mask__law_is_fun : List Bool := [true]
/- slots: 0 _law_thing -/
def b__law_is_fun : FS := sRt (vA2 (f2 leB (oM (fCall (m__law_deep 18) 1 (osCons (oM (fV 0)) (osNil)))) (oM (fC (.int 12)))) (vA2 (f2 leB (oM (fCall (m__law_count 18) 1 (osCons (oM (fV 0)) (osNil)))) (oM (fC (.int 200)))) (fCall (m__law_fits_well 18) 1 (osCons (oM (fV 0)) (osNil)))))
abbrev st__law_apply : Stmt := topS 31
abbrev N__law_apply : List Str := ["_law_thing", "_law_arguments", "_law_left", "_law_word", "_law_values", "_law_part", "_law_found", "_law_k"]
abbrev mask__law_apply : List Bool := [true, true, false]
/- slots: 0 _law_thing, 1 _law_arguments, 2 _law_left, 3 _law_word, 4 _law_values, 5 _law_part, 6 _law_found, 7 _law_k -/
def b__law_apply_9 (mself : FM) : FS := sRt (fC .non)
def b__law_apply_8 (mself : FM) : FS := sSeq (sFor (iR1 (faCons (f2 addB (oM (fV 2)) (oM (fC (.int 1)))) (faNil))) (gNm 7) (sSeq (sSet 6 (fCall mself 3 (osCons (oM (f2 ixB (oM (fV 0)) (oM (fC (.int 1))))) (osCons (oM (f2 addB (oM (fTup (faCons (fV 7) (faNil)))) (oM (fV 1)))) (osCons (oM (fV 2)) (osNil)))))) (sSeq (sIf (tOf (f2 isNB (oN 6) (oM (fC .non)))) (sRt (fC .non)) (sNx)) (sSeq (sIf (tOf (f2 eqB (oM (f2 ixB (oN 6) (oM (fC (.int 0))))) (oM (fC (.int 0))))) (sRt (fLst (faCons (fV 7) (faCons (f2 ixB (oN 6) (oM (fC (.int 1)))) (faNil))))) (sNx)) (sSet 2 (f2 ixB (oN 6) (oM (fC (.int 1))))))))) (sPc (b__law_apply_9 mself))
def b__law_apply_7 (mself : FM) : FS := sSeq (sIf (tOf (f2 eqB (oM (fV 3)) (oM (fC (.str "repeat"))))) (sSeq (sSet 6 (fCall mself 3 (osCons (oM (f2 ixB (oM (fV 0)) (oM (fC (.int 1))))) (osCons (oM (fSl (oN 1) (pSome (fC (.int 1))) (pNo))) (osCons (oM (fV 2)) (osNil)))))) (sSeq (sFor (iR1 (faCons (f2 ixB (oN 1) (oM (fC (.int 0)))) (faNil))) (gNm 7) (sSeq (sIf (tOf (f2 isNB (oN 6) (oM (fC .non)))) (sRt (fC .non)) (sNx)) (sSet 6 (fCall mself 3 (osCons (oM (f2 ixB (oM (fV 0)) (oM (fC (.int 2))))) (osCons (oM (f2 addB (oM (fTup (faCons (fV 7) (faCons (f2 ixB (oN 6) (oM (fC (.int 0)))) (faNil))))) (oM (fSl (oN 1) (pSome (fC (.int 1))) (pNo))))) (osCons (oM (f2 ixB (oN 6) (oM (fC (.int 1))))) (osNil)))))))) (sRt (fMv 6)))) (sNx)) (sPc (b__law_apply_8 mself))
def b__law_apply_6 (mself : FM) : FS := sSeq (sIf (tOf (f2 eqB (oM (fV 3)) (oM (fC (.str "of"))))) (sSeq (sSet 4 (fLst (faNil))) (sSeq (sFor (iVal (f2 ixB (oM (fV 0)) (oM (fC (.int 2))))) (gNm 5) (sSeq (sSet 6 (fCall mself 3 (osCons (oM (fV 5)) (osCons (oN 1) (osCons (oM (fV 2)) (osNil)))))) (sSeq (sIf (tOf (f2 isNB (oN 6) (oM (fC .non)))) (sRt (fC .non)) (sNx)) (sSeq (sEx (fML appendB (oN 4) (osCons (oM (f2 ixB (oN 6) (oM (fC (.int 0))))) (osNil)))) (sSet 2 (f2 ixB (oN 6) (oM (fC (.int 1))))))))) (sRt (fCall mself 3 (osCons (oM (f2 ixB (oM (fV 0)) (oM (fC (.int 1))))) (osCons (oM (fB tupleB (osCons (oN 4) (osNil)))) (osCons (oM (fV 2)) (osNil)))))))) (sNx)) (sPc (b__law_apply_7 mself))
def b__law_apply_5 (mself : FM) : FS := sSeq (sIf (tOf (f2 eqB (oM (fV 3)) (oM (fC (.str "arg"))))) (sRt (fLst (faCons (f2 ixB (oN 1) (oM (f2 ixB (oM (fV 0)) (oM (fC (.int 2)))))) (faCons (fV 2) (faNil))))) (sNx)) (sPc (b__law_apply_6 mself))
def b__law_apply_4 (mself : FM) : FS := sSeq (sIf (tOf (f2 eqB (oM (fV 3)) (oM (fC (.str "next"))))) (sRt (fLst (faCons (f2 addB (oM (f2 ixB (oN 1) (oM (fC (.int 0))))) (oM (fC (.int 1)))) (faCons (fV 2) (faNil))))) (sNx)) (sPc (b__law_apply_5 mself))
def b__law_apply_3 (mself : FM) : FS := sSeq (sIf (tOf (f2 eqB (oM (fV 3)) (oM (fC (.str "zero"))))) (sRt (fLst (faCons (fC (.int 0)) (faCons (fV 2) (faNil))))) (sNx)) (sPc (b__law_apply_4 mself))
def b__law_apply_2 (mself : FM) : FS := sSeq (sSet 3 (f2 ixB (oM (fV 0)) (oM (fC (.int 0))))) (sPc (b__law_apply_3 mself))
def b__law_apply_1 (mself : FM) : FS := sSeq (sSet 2 (f2 subB (oM (fV 2)) (oM (fC (.int 1))))) (sPc (b__law_apply_2 mself))
def b__law_apply (mself : FM) : FS := sSeq (sIf (tOf (f2 ltB (oM (fV 2)) (oM (fC (.int 1))))) (sRt (fC .non)) (sNx)) (sPc (b__law_apply_1 mself))
abbrev st_parts : Stmt := topS 9
abbrev N_parts : List Str := ["function"]
abbrev mask_parts : List Bool := [true]
/- slots: 0 function -/
def b_parts : FS := sSeq (sIf (tOf (f2 eqB (oM (f2 ixB (oM (fV 0)) (oM (fC (.int 0))))) (oM (fC (.str "of"))))) (sRt (f2 addB (oM (fLst (faCons (f2 ixB (oM (fV 0)) (oM (fC (.int 1)))) (faNil)))) (oM (fB listB (osCons (oM (f2 ixB (oM (fV 0)) (oM (fC (.int 2))))) (osNil)))))) (sNx)) (sSeq (sIf (tOf (f2 (memB false) (oM (f2 ixB (oM (fV 0)) (oM (fC (.int 0))))) (oM (fTup (faCons (fC (.str "repeat")) (faCons (fC (.str "least")) (faNil))))))) (sRt (fB listB (osCons (oM (fSl (oM (fV 0)) (pSome (fC (.int 1))) (pNo))) (osNil)))) (sNx)) (sRt (fLst (faNil))))
abbrev st_depth : Stmt := topS 10
abbrev N_depth : List Str := ["function", "part"]
abbrev mask_depth : List Bool := [true]
/- slots: 0 function, 1 part -/
def b_depth (mself : FM) : FS := sRt (f2 addB (oM (fC (.int 1))) (oM (fB (maxdB 0) (osCons (oM (fLc (iVal (fCall m_parts 1 (osCons (oM (fV 0)) (osNil)))) (gNm 1) (tTrue) (fCall mself 1 (osCons (oM (fV 1)) (osNil))) [1])) (osNil)))))
abbrev st_count_parts : Stmt := topS 11
abbrev N_count_parts : List Str := ["function", "part"]
abbrev mask_count_parts : List Bool := [true]
/- slots: 0 function, 1 part -/
def b_count_parts (mself : FM) : FS := sRt (f2 addB (oM (fC (.int 1))) (oM (fB sumB (osCons (oM (fLc (iVal (fCall m_parts 1 (osCons (oM (fV 0)) (osNil)))) (gNm 1) (tTrue) (fCall mself 1 (osCons (oM (fV 1)) (osNil))) [1])) (osNil)))))
abbrev st_arity : Stmt := topS 12
abbrev N_arity : List Str := ["function", "kind"]
abbrev mask_arity : List Bool := [true]
/- slots: 0 function, 1 kind -/
def b_arity_5 (mself : FM) : FS := sRt (f2 subB (oM (fCall mself 1 (osCons (oM (f2 ixB (oM (fV 0)) (oM (fC (.int 1))))) (osNil)))) (oM (fC (.int 1))))
def b_arity_4 (mself : FM) : FS := sSeq (sIf (tOf (f2 eqB (oM (fV 1)) (oM (fC (.str "repeat"))))) (sRt (f2 addB (oM (fCall mself 1 (osCons (oM (f2 ixB (oM (fV 0)) (oM (fC (.int 1))))) (osNil)))) (oM (fC (.int 1))))) (sNx)) (sPc (b_arity_5 mself))
def b_arity_3 (mself : FM) : FS := sSeq (sIf (tOf (f2 eqB (oM (fV 1)) (oM (fC (.str "of"))))) (sRt (fCall mself 1 (osCons (oM (f2 ixB (oM (f2 ixB (oM (fV 0)) (oM (fC (.int 2))))) (oM (fC (.int 0))))) (osNil)))) (sNx)) (sPc (b_arity_4 mself))
def b_arity_2 (mself : FM) : FS := sSeq (sIf (tOf (f2 eqB (oM (fV 1)) (oM (fC (.str "next"))))) (sRt (fC (.int 1))) (sNx)) (sPc (b_arity_3 mself))
def b_arity_1 (mself : FM) : FS := sSeq (sIf (tOf (f2 (memB false) (oM (fV 1)) (oM (fTup (faCons (fC (.str "zero")) (faCons (fC (.str "arg")) (faNil))))))) (sRt (f2 ixB (oM (fV 0)) (oM (fC (.int 1))))) (sNx)) (sPc (b_arity_2 mself))
def b_arity (mself : FM) : FS := sSeq (sSet 1 (f2 ixB (oM (fV 0)) (oM (fC (.int 0))))) (sPc (b_arity_1 mself))
abbrev st_has_right_arities : Stmt := topS 13
abbrev N_has_right_arities : List Str := ["function", "kind", "count", "part", "inner"]
abbrev mask_has_right_arities : List Bool := [true]
/- slots: 0 function, 1 kind, 2 count, 3 part, 4 inner -/
def b_has_right_arities_7 (mself : FM) : FS := sRt (vO2 (f2 eqB (oM (fV 1)) (oM (fC (.str "next")))) (f2 geB (oM (fCall (m_arity 18) 1 (osCons (oM (f2 ixB (oM (fV 0)) (oM (fC (.int 1))))) (osNil)))) (oM (fC (.int 1)))))
def b_has_right_arities_6 (mself : FM) : FS := sSeq (sIf (tOf (f2 eqB (oM (fV 1)) (oM (fC (.str "repeat"))))) (sRt (vA2 (f2 ltB (oM (fCall (m_arity 18) 1 (osCons (oM (f2 ixB (oM (fV 0)) (oM (fC (.int 1))))) (osNil)))) (oM (fC (.int 6)))) (f2 eqB (oM (fCall (m_arity 18) 1 (osCons (oM (f2 ixB (oM (fV 0)) (oM (fC (.int 2))))) (osNil)))) (oM (f2 addB (oM (fCall (m_arity 18) 1 (osCons (oM (f2 ixB (oM (fV 0)) (oM (fC (.int 1))))) (osNil)))) (oM (fC (.int 2)))))))) (sNx)) (sPc (b_has_right_arities_7 mself))
def b_has_right_arities_5 (mself : FM) : FS := sSeq (sIf (tOf (f2 eqB (oM (fV 1)) (oM (fC (.str "of"))))) (sSeq (sSet 2 (fCall (m_arity 18) 1 (osCons (oM (fV 0)) (osNil)))) (sRt (vA2 (f2 eqB (oM (fCall (m_arity 18) 1 (osCons (oM (f2 ixB (oM (fV 0)) (oM (fC (.int 1))))) (osNil)))) (oM (fB lenB (osCons (oM (f2 ixB (oM (fV 0)) (oM (fC (.int 2))))) (osNil))))) (fGx (iVal (f2 ixB (oM (fV 0)) (oM (fC (.int 2))))) (gNm 4) (f2 eqB (oM (fCall (m_arity 18) 1 (osCons (oM (fV 4)) (osNil)))) (oM (fV 2))) [4] false)))) (sNx)) (sPc (b_has_right_arities_6 mself))
def b_has_right_arities_4 (mself : FM) : FS := sSeq (sIf (tNt (tOf (fGx (iVal (fCall m_parts 1 (osCons (oM (fV 0)) (osNil)))) (gNm 3) (fCall mself 1 (osCons (oM (fV 3)) (osNil))) [3] false))) (sRt (fC (.bl false))) (sNx)) (sPc (b_has_right_arities_5 mself))
def b_has_right_arities_3 (mself : FM) : FS := sSeq (sIf (tA2 (tOf (f2 eqB (oM (fV 1)) (oM (fC (.str "of"))))) (tOf (f2 eqB (oM (fB lenB (osCons (oM (f2 ixB (oM (fV 0)) (oM (fC (.int 2))))) (osNil)))) (oM (fC (.int 0)))))) (sRt (fC (.bl false))) (sNx)) (sPc (b_has_right_arities_4 mself))
def b_has_right_arities_2 (mself : FM) : FS := sSeq (sIf (tOf (f2 eqB (oM (fV 1)) (oM (fC (.str "arg"))))) (sRt (vA2 (fCh leB leB (fC (.int 1)) (f2 ixB (oM (fV 0)) (oM (fC (.int 1)))) (fC (.int 6))) (fCh leB ltB (fC (.int 0)) (f2 ixB (oM (fV 0)) (oM (fC (.int 2)))) (f2 ixB (oM (fV 0)) (oM (fC (.int 1))))))) (sNx)) (sPc (b_has_right_arities_3 mself))
def b_has_right_arities_1 (mself : FM) : FS := sSeq (sIf (tOf (f2 eqB (oM (fV 1)) (oM (fC (.str "zero"))))) (sRt (fCh leB leB (fC (.int 0)) (f2 ixB (oM (fV 0)) (oM (fC (.int 1)))) (fC (.int 6)))) (sNx)) (sPc (b_has_right_arities_2 mself))
def b_has_right_arities (mself : FM) : FS := sSeq (sSet 1 (f2 ixB (oM (fV 0)) (oM (fC (.int 0))))) (sPc (b_has_right_arities_1 mself))
abbrev st_is_function : Stmt := topS 14
abbrev N_is_function : List Str := ["thing"]
abbrev mask_is_function : List Bool := [true]
/- slots: 0 thing -/
def b_is_function : FS := sRt (vA2 (f2 leB (oM (fCall (m_depth 18) 1 (osCons (oM (fV 0)) (osNil)))) (oM (fC (.int 12)))) (vA2 (f2 leB (oM (fCall (m_count_parts 18) 1 (osCons (oM (fV 0)) (osNil)))) (oM (fC (.int 200)))) (fCall (m_has_right_arities 18) 1 (osCons (oM (fV 0)) (osNil)))))
abbrev st_check_arguments : Stmt := topS 17
abbrev N_check_arguments : List Str := ["function", "arguments", "argument"]
abbrev mask_check_arguments : List Bool := [true, true]
/- slots: 0 function, 1 arguments, 2 argument -/
def b_check_arguments (ca : CA) : FS := sSeq (sIf (tNt (tOf (fCall m_is_function 1 (osCons (oM (fV 0)) (osNil))))) (sRaise (.ref ca.c_InvalidFunction)) (sNx)) (sIf (tO2 (tOf (f2 neB (oM (fB lenB (osCons (oM (fV 1)) (osNil)))) (oM (fCall (m_arity 18) 1 (osCons (oM (fV 0)) (osNil)))))) (tOf (fGx (iVal (fV 1)) (gNm 2) (f2 ltB (oM (fV 2)) (oM (fC (.int 0)))) [2] true))) (sRaise (.ref ca.c_BadArgument)) (sNx))
abbrev st_Evaluation___init__ : Stmt := inClass (topS 15) 0
abbrev N_Evaluation___init__ : List Str := ["self", "limit"]
abbrev mask_Evaluation___init__ : List Bool := [true, true]
/- slots: 0 self, 1 limit -/
def b_Evaluation___init__ (ca : CA) : FS := sSeq (sFldS ca.c_Evaluation "limit" (oN 0) (fV 1)) (sFldS ca.c_Evaluation "count" (oN 0) (fC (.int 0)))
abbrev st_Evaluation_repeat : Stmt := inClass (topS 15) 2
abbrev N_Evaluation_repeat : List Str := ["self", "function", "count", "rest", "found", "number"]
abbrev mask_Evaluation_repeat : List Bool := [true, true, true, true]
/- slots: 0 self, 1 function, 2 count, 3 rest, 4 found, 5 number -/
def b_Evaluation_repeat (ca : CA) (mself : FM) : FS := sSeq (sSet 4 (fMt ca.c_Evaluation "apply" mself 3 (oN 0) (osCons (oM (f2 ixB (oM (fV 1)) (oM (fC (.int 1))))) (osCons (oN 3) (osNil))))) (sSeq (sFor (iR1 (faCons (fV 2) (faNil))) (gNm 5) (sSet 4 (fMt ca.c_Evaluation "apply" mself 3 (oN 0) (osCons (oM (f2 ixB (oM (fV 1)) (oM (fC (.int 2))))) (osCons (oM (f2 addB (oM (fTup (faCons (fV 5) (faCons (fV 4) (faNil))))) (oM (fV 3)))) (osNil)))))) (sRt (fV 4)))
def m_Evaluation_repeat (ca : CA) (mself : FM) : FM := fun ms R XR => b_Evaluation_repeat ca mself (bodyE mask_Evaluation_repeat R XR) (ms ++ List.replicate 2 .gone)
abbrev st_Evaluation_apply : Stmt := inClass (topS 15) 1
abbrev N_Evaluation_apply : List Str := ["self", "function", "arguments", "kind", "inner", "number", "part"]
abbrev mask_Evaluation_apply : List Bool := [true, true, true]
/- slots: 0 self, 1 function, 2 arguments, 3 kind, 4 inner, 5 number, 6 part -/
def b_Evaluation_apply_10 (ca : CA) (mself : FM) : FS := sRt (fV 5)
def b_Evaluation_apply_9 (ca : CA) (mself : FM) : FS := sSeq (sWh (tOf (f2 neB (oM (fMt ca.c_Evaluation "apply" mself 3 (oN 0) (osCons (oM (f2 ixB (oM (fV 1)) (oM (fC (.int 1))))) (osCons (oM (f2 addB (oM (fTup (faCons (fV 5) (faNil)))) (oM (fV 2)))) (osNil))))) (oM (fC (.int 0))))) (sAug 5 iaddB (fC (.int 1)))) (sPc (b_Evaluation_apply_10 ca mself))
def b_Evaluation_apply_8 (ca : CA) (mself : FM) : FS := sSeq (sSet 5 (fC (.int 0))) (sPc (b_Evaluation_apply_9 ca mself))
def b_Evaluation_apply_7 (ca : CA) (mself : FM) : FS := sSeq (sIf (tOf (f2 eqB (oM (fV 3)) (oM (fC (.str "repeat"))))) (sRt (fMt ca.c_Evaluation "repeat" (m_Evaluation_repeat ca mself) 4 (oN 0) (osCons (oM (fV 1)) (osCons (oM (f2 ixB (oN 2) (oM (fC (.int 0))))) (osCons (oM (fSl (oN 2) (pSome (fC (.int 1))) (pNo))) (osNil)))))) (sNx)) (sPc (b_Evaluation_apply_8 ca mself))
def b_Evaluation_apply_6 (ca : CA) (mself : FM) : FS := sSeq (sIf (tOf (f2 eqB (oM (fV 3)) (oM (fC (.str "of"))))) (sSeq (sSet 4 (fB tupleB (osCons (oM (fLcX (iVal (f2 ixB (oM (fV 1)) (oM (fC (.int 2))))) (gNm 6) (tTrue) (fMt ca.c_Evaluation "apply" mself 3 (oN 0) (osCons (oM (fV 6)) (osCons (oN 2) (osNil)))) [6])) (osNil)))) (sRt (fMt ca.c_Evaluation "apply" mself 3 (oN 0) (osCons (oM (f2 ixB (oM (fV 1)) (oM (fC (.int 1))))) (osCons (oM (fV 4)) (osNil)))))) (sNx)) (sPc (b_Evaluation_apply_7 ca mself))
def b_Evaluation_apply_5 (ca : CA) (mself : FM) : FS := sSeq (sIf (tOf (f2 eqB (oM (fV 3)) (oM (fC (.str "arg"))))) (sRt (f2 ixB (oN 2) (oM (f2 ixB (oM (fV 1)) (oM (fC (.int 2))))))) (sNx)) (sPc (b_Evaluation_apply_6 ca mself))
def b_Evaluation_apply_4 (ca : CA) (mself : FM) : FS := sSeq (sIf (tOf (f2 eqB (oM (fV 3)) (oM (fC (.str "next"))))) (sRt (f2 addB (oM (f2 ixB (oN 2) (oM (fC (.int 0))))) (oM (fC (.int 1))))) (sNx)) (sPc (b_Evaluation_apply_5 ca mself))
def b_Evaluation_apply_3 (ca : CA) (mself : FM) : FS := sSeq (sIf (tOf (f2 eqB (oM (fV 3)) (oM (fC (.str "zero"))))) (sRt (fC (.int 0))) (sNx)) (sPc (b_Evaluation_apply_4 ca mself))
def b_Evaluation_apply_2 (ca : CA) (mself : FM) : FS := sSeq (sSet 3 (f2 ixB (oM (fV 1)) (oM (fC (.int 0))))) (sPc (b_Evaluation_apply_3 ca mself))
def b_Evaluation_apply_1 (ca : CA) (mself : FM) : FS := sSeq (sIf (tOf (f2 gtB (oM (f1 (fldB ca.c_Evaluation "count") (oN 0))) (oM (f1 (fldB ca.c_Evaluation "limit") (oN 0))))) (sRaiseX ca.c_TooLong "limit" (f1 (fldB ca.c_Evaluation "limit") (oN 0))) (sNx)) (sPc (b_Evaluation_apply_2 ca mself))
def b_Evaluation_apply (ca : CA) (mself : FM) : FS := sSeq (sFAug ca.c_Evaluation "count" 1 (oN 0)) (sPc (b_Evaluation_apply_1 ca mself))
abbrev st_evaluated : Stmt := topS 16
abbrev N_evaluated : List Str := ["function", "arguments", "limit", "evaluation", "found"]
abbrev mask_evaluated : List Bool := [true, true, true]
/- slots: 0 function, 1 arguments, 2 limit, 3 evaluation, 4 found -/
def b_evaluated (ca : CA) : FS := sSeq (sEx (fCall (m_check_arguments ca) 2 (osCons (oM (fV 0)) (osCons (oM (fV 1)) (osNil))))) (sSeq (sSet 3 (fMk ca.c_Evaluation (m_Evaluation___init__ ca) 2 (osCons (oM (fV 2)) (osNil)))) (sSeq (sSet 4 (fMt ca.c_Evaluation "apply" (m_Evaluation_apply ca 18) 3 (oN 3) (osCons (oM (fV 0)) (osCons (oM (fV 1)) (osNil))))) (sRt (fTup (faCons (fV 4) (faCons (f1 (fldB ca.c_Evaluation "count") (oN 3)) (faNil)))))))
abbrev st_value : Stmt := topS 18
abbrev N_value : List Str := ["function", "arguments", "limit"]
abbrev mask_value : List Bool := [true, true, true]
/- slots: 0 function, 1 arguments, 2 limit -/
def b_value (ca : CA) : FS := sRt (f2 ixB (oM (fCall (m_evaluated ca) 3 (osCons (oM (fV 0)) (osCons (oM (fV 1)) (osCons (oM (fV 2)) (osNil)))))) (oM (fC (.int 0))))
abbrev st_applications : Stmt := topS 19
abbrev N_applications : List Str := ["function", "arguments", "limit"]
abbrev mask_applications : List Bool := [true, true, true]
/- slots: 0 function, 1 arguments, 2 limit -/
def b_applications (ca : CA) : FS := sRt (f2 ixB (oM (fCall (m_evaluated ca) 3 (osCons (oM (fV 0)) (osCons (oM (fV 1)) (osCons (oM (fV 2)) (osNil)))))) (oM (fC (.int 1))))
abbrev st__law_told : Stmt := topS 32
abbrev N__law_told : List Str := ["_law_thing", "_law_arguments", "_law_limit", "_law_way", "e"]
abbrev mask__law_told : List Bool := [true, true, true, true]
/- slots: 0 _law_thing, 1 _law_arguments, 2 _law_limit, 3 _law_way, 4 e -/
def b__law_told (ca : CA) : FS := sTryA 4 [(.ref ca.c_BadArgument, false), (.ref ca.c_InvalidFunction, false), (.ref ca.c_TooLong, true)] (sSeq (sIf (tOf (f2 eqB (oM (fV 3)) (oM (fC (.int 0))))) (sRt (fTup (faCons (fC (.str "value")) (faCons (fCall (m_value ca) 3 (osCons (oM (fV 0)) (osCons (oM (fV 1)) (osCons (oM (fV 2)) (osNil))))) (faNil))))) (sNx)) (sRt (fTup (faCons (fC (.str "value")) (faCons (fCall (m_applications ca) 3 (osCons (oM (fV 0)) (osCons (oM (fV 1)) (osCons (oM (fV 2)) (osNil))))) (faNil)))))) (fun ea ed ex => sRt (fTup (faCons (fC (.str "long")) (faCons (fXf 4 ca.c_TooLong "limit" ea ed ex.1) (faNil)))))
abbrev st__law_like : Stmt := topS 23
abbrev N__law_like : List Str := ["_law_actual", "_law_due", "_law_k"]
abbrev mask__law_like : List Bool := [true, true]
/- slots: 0 _law_actual, 1 _law_due, 2 _law_k -/
def b__law_like_6 (mself : FM) : FS := sRt (fB allB (osCons (oM (fLc (iR1 (faCons (fB lenB (osCons (oN 1) (osNil))) (faNil))) (gNm 2) (tTrue) (fCall mself 2 (osCons (oM (f2 ixB (oN 0) (oM (fV 2)))) (osCons (oM (f2 ixB (oN 1) (oM (fV 2)))) (osNil)))) [2])) (osNil)))
def b__law_like_5 (mself : FM) : FS := sSeq (sIf (tOf (f2 neB (oM (fB lenB (osCons (oN 0) (osNil)))) (oM (fB lenB (osCons (oN 1) (osNil)))))) (sRt (fC (.bl false))) (sNx)) (sPc (b__law_like_6 mself))
def b__law_like_4 (mself : FM) : FS := sSeq (sIf (tO2 (tOf (f2 neB (oM (fIsa isaList (oN 1))) (oM (fIsa isaList (oN 0))))) (tOf (f2 neB (oM (fIsa isaTuple (oN 1))) (oM (fIsa isaTuple (oN 0)))))) (sRt (fC (.bl false))) (sNx)) (sPc (b__law_like_5 mself))
def b__law_like_3 (mself : FM) : FS := sSeq (sIf (tOf (fIsa isaInt (oN 1))) (sRt (vA2 (fIsa isaInt (oN 0)) (vA2 (vNt (fIsa isaBool (oN 0))) (f2 eqB (oN 0) (oN 1))))) (sNx)) (sPc (b__law_like_4 mself))
def b__law_like_2 (mself : FM) : FS := sSeq (sIf (tOf (fIsa isaStr (oN 1))) (sRt (vA2 (fIsa isaStr (oN 0)) (f2 eqB (oN 0) (oN 1)))) (sNx)) (sPc (b__law_like_3 mself))
def b__law_like_1 (mself : FM) : FS := sSeq (sIf (tOf (fIsa isaBool (oN 1))) (sRt (vA2 (fIsa isaBool (oN 0)) (f2 eqB (oN 0) (oN 1)))) (sNx)) (sPc (b__law_like_2 mself))
def b__law_like (mself : FM) : FS := sSeq (sIf (tOf (f2 isNB (oN 1) (oM (fC .non)))) (sRt (f2 isNB (oN 0) (oM (fC .non)))) (sNx)) (sPc (b__law_like_1 mself))
abbrev st_law : Stmt := topS 33
abbrev N_law : List Str := ["_law_script", "_law_turn", "_law_draws_here", "_law_thing", "_law_arguments", "_law_found", "_law_way", "_law_used", "_law_k"]
abbrev mask_law : List Bool := [true]
/- slots: 0 _law_script, 1 _law_turn, 2 _law_draws_here, 3 _law_thing, 4 _law_arguments, 5 _law_found, 6 _law_way, 7 _law_used, 8 _law_k -/
def b_law (ca : CA) : FS := sSeq (sFor (iR1 (faCons (fC (.int 3)) (faNil))) (gNm 1) (sSeq (sSet 2 (fCall m__law_draws 2 (osCons (oM (fCall m__law_cell 2 (osCons (oM (fV 0)) (osCons (oM (fV 1)) (osNil))))) (osCons (oM (fC (.int 60))) (osNil))))) (sSeq (sSet 3 (fCall (m__law_fun 4) 4 (osCons (oN 2) (osCons (oM (fV 1)) (osCons (oM (f2 modB (oM (f2 ixB (oN 2) (oM (fC (.int 59))))) (oM (fC (.int 4))))) (osCons (oM (f2 addB (oM (fC (.int 2))) (oM (f2 modB (oM (f2 ixB (oN 2) (oM (fC (.int 58))))) (oM (fC (.int 3))))))) (osNil))))))) (sSeq (sIf (tNt (tOf (fCall m__law_is_fun 1 (osCons (oM (fV 3)) (osNil))))) (sRt (fC (.bl false))) (sNx)) (sSeq (sSet 4 (fB tupleB (osCons (oM (fLc (iR1 (faCons (fCall (m__law_arity 18) 1 (osCons (oM (fV 3)) (osNil))) (faNil))) (gNm 8) (tTrue) (f2 modB (oM (f2 ixB (oN 2) (oM (f2 addB (oM (fC (.int 50))) (oM (fV 8)))))) (oM (fC (.int 5)))) [8])) (osNil)))) (sSeq (sSet 5 (fCall (m__law_apply 18) 3 (osCons (oM (fV 3)) (osCons (oM (fV 4)) (osCons (oM (fC (.int 300))) (osNil)))))) (sIf (tOf (f2 isNB (oN 5) (oM (fC .non)))) (sFor (iR1 (faCons (fC (.int 2)) (faNil))) (gNm 6) (sIf (tNt (tOf (fCall (m__law_like 8) 2 (osCons (oM (fCall (m__law_told ca) 4 (osCons (oM (fV 3)) (osCons (oM (fV 4)) (osCons (oM (fC (.int 300))) (osCons (oM (fV 6)) (osNil))))))) (osCons (oM (fTup (faCons (fC (.str "long")) (faCons (fC (.int 300)) (faNil))))) (osNil)))))) (sRt (fC (.bl false))) (sNx))) (sSeq (sSet 7 (f2 subB (oM (fC (.int 300))) (oM (f2 ixB (oN 5) (oM (fC (.int 1))))))) (sSeq (sIf (tNt (tOf (fCall (m__law_like 8) 2 (osCons (oM (fCall (m__law_told ca) 4 (osCons (oM (fV 3)) (osCons (oM (fV 4)) (osCons (oM (fV 7)) (osCons (oM (fC (.int 0))) (osNil))))))) (osCons (oM (fTup (faCons (fC (.str "value")) (faCons (f2 ixB (oN 5) (oM (fC (.int 0)))) (faNil))))) (osNil)))))) (sRt (fC (.bl false))) (sNx)) (sSeq (sIf (tNt (tOf (fCall (m__law_like 8) 2 (osCons (oM (fCall (m__law_told ca) 4 (osCons (oM (fV 3)) (osCons (oM (fV 4)) (osCons (oM (fV 7)) (osCons (oM (fC (.int 1))) (osNil))))))) (osCons (oM (fTup (faCons (fC (.str "value")) (faCons (fV 7) (faNil))))) (osNil)))))) (sRt (fC (.bl false))) (sNx)) (sIf (tNt (tOf (fCall (m__law_like 8) 2 (osCons (oM (fCall (m__law_told ca) 4 (osCons (oM (fV 3)) (osCons (oM (fV 4)) (osCons (oM (f2 subB (oM (fV 7)) (oM (fC (.int 1))))) (osCons (oM (f2 modB (oM (f2 ixB (oN 2) (oM (fC (.int 57))))) (oM (fC (.int 2))))) (osNil))))))) (osCons (oM (fTup (faCons (fC (.str "long")) (faCons (f2 subB (oM (fV 7)) (oM (fC (.int 1)))) (faNil))))) (osNil)))))) (sRt (fC (.bl false))) (sNx)))))))))))) (sRt (fC (.bl true)))
abbrev st_TooLong___init__ : Stmt := inClass (topS 2) 0



theorem c__law_cell {ns : List Int} {k : Int} {R : RMx} {XR : XM} (hk : 0 ≤ k) (hcont : ∀ c, 0 ≤ c → R (.v (.int c)) [.v (.lst (ns.map D.int)), .v (.int k)]) : m__law_cell [.v (.lst (ns.map D.int)), .v (.int k)] R XR := by
  unfold m__law_cell
  exact ⟨ns, k, rfl, hk, hcont⟩
theorem i__law_cell (hbody : ∀ (ns : List Int) (k : Int) (R : RMx) (XR : XM), (0 ≤ k) → (∀ c, 0 ≤ c → R (.v (.int c)) [.v (.lst (ns.map D.int)), .v (.int k)]) → b__law_cell (bodyE mask__law_cell R XR) [.v (.lst (ns.map D.int)), .v (.int k)]) : BodyIs mask__law_cell 2 (b__law_cell) (m__law_cell) := by
  intro ms R XR _ h
  unfold m__law_cell at h
  obtain ⟨ns, k, rfl, hk, h⟩ := h
  exact hbody ns k R XR hk h
theorem c__law_draws {c n : Int} {R : RMx} {XR : XM} (h0 : 0 ≤ c) (hn0 : 0 ≤ n) (hn1 : n ≤ 1000) (hcont : ∀ xs, Draws n.toNat xs → R (.ml (xs.map D.int)) [.v (.int c), .v (.int n)]) : m__law_draws [.v (.int c), .v (.int n)] R XR := by
  unfold m__law_draws
  exact ⟨c, n, rfl, h0, hn0, hn1, hcont⟩
theorem i__law_draws (hbody : ∀ (c n : Int) (R : RMx) (XR : XM), (0 ≤ c) → (0 ≤ n) → (n ≤ 1000) → (∀ xs, Draws n.toNat xs → R (.ml (xs.map D.int)) [.v (.int c), .v (.int n)]) → b__law_draws (bodyE mask__law_draws R XR) [.v (.int c), .v (.int n), .gone, .gone, .gone, .gone]) : BodyIs mask__law_draws 6 (b__law_draws) (m__law_draws) := by
  intro ms R XR _ h
  unfold m__law_draws at h
  obtain ⟨c, n, rfl, h0, hn0, hn1, h⟩ := h
  exact hbody c n R XR h0 hn0 hn1 h
theorem c_parts {n : Nat} {d : D} {R : RMx} {XR : XM} (hd : Fd (n + 1) d) (hcont : R (.ml (partsD d)) [.v d]) : m_parts [.v d] R XR := by
  unfold m_parts
  exact ⟨n, d, rfl, hd, hcont⟩
theorem i_parts (hbody : ∀ (n : Nat) (d : D) (R : RMx) (XR : XM), (Fd (n + 1) d) → (R (.ml (partsD d)) [.v d]) → b_parts (bodyE mask_parts R XR) [.v d]) : BodyIs mask_parts 1 (b_parts) (m_parts) := by
  intro ms R XR _ h
  unfold m_parts at h
  obtain ⟨n, d, rfl, hd, h⟩ := h
  exact hbody n d R XR hd h
theorem c__law_pieces {n : Nat} {d : D} {R : RMx} {XR : XM} (hd : Fd (n + 1) d) (hcont : R (.ml (partsD d)) [.v d]) : m__law_pieces [.v d] R XR := by
  unfold m__law_pieces
  exact ⟨n, d, rfl, hd, hcont⟩
theorem i__law_pieces (hbody : ∀ (n : Nat) (d : D) (R : RMx) (XR : XM), (Fd (n + 1) d) → (R (.ml (partsD d)) [.v d]) → b__law_pieces (bodyE mask__law_pieces R XR) [.v d]) : BodyIs mask__law_pieces 1 (b__law_pieces) (m__law_pieces) := by
  intro ms R XR _ h
  unfold m__law_pieces at h
  obtain ⟨n, d, rfl, hd, h⟩ := h
  exact hbody n d R XR hd h
theorem c_is_function {d : D} {R : RMx} {XR : XM} (hd : Fd 18 d) (hcont : R (.v (.bl (isF d))) [.v d]) : m_is_function [.v d] R XR := by
  unfold m_is_function
  exact ⟨d, rfl, hd, hcont⟩
theorem i_is_function (hbody : ∀ (d : D) (R : RMx) (XR : XM), (Fd 18 d) → (R (.v (.bl (isF d))) [.v d]) → b_is_function (bodyE mask_is_function R XR) [.v d]) : BodyIs mask_is_function 1 (b_is_function) (m_is_function) := by
  intro ms R XR _ h
  unfold m_is_function at h
  obtain ⟨d, rfl, hd, h⟩ := h
  exact hbody d R XR hd h
theorem c__law_is_fun {d : D} {R : RMx} {XR : XM} (hd : Fd 18 d) (hcont : R (.v (.bl (isF d))) [.v d]) : m__law_is_fun [.v d] R XR := by
  unfold m__law_is_fun
  exact ⟨d, rfl, hd, hcont⟩
theorem i__law_is_fun (hbody : ∀ (d : D) (R : RMx) (XR : XM), (Fd 18 d) → (R (.v (.bl (isF d))) [.v d]) → b__law_is_fun (bodyE mask__law_is_fun R XR) [.v d]) : BodyIs mask__law_is_fun 1 (b__law_is_fun) (m__law_is_fun) := by
  intro ms R XR _ h
  unfold m__law_is_fun at h
  obtain ⟨d, rfl, hd, h⟩ := h
  exact hbody d R XR hd h




theorem c_Evaluation___init__ {ca : CA} {n : Int} {R : RMx} {XR : XM} (hcont : R (.v .non) [evO ca n 0, .v (.int n)]) : m_Evaluation___init__ ca [.mo ca.c_Evaluation [] [], .v (.int n)] R XR := by
  unfold m_Evaluation___init__
  exact ⟨n, rfl, hcont⟩
theorem i_Evaluation___init__ {ca : CA} (hbody : ∀ (n : Int) (R : RMx) (XR : XM), (R (.v .non) [evO ca n 0, .v (.int n)]) → b_Evaluation___init__ ca (bodyE mask_Evaluation___init__ R XR) [.mo ca.c_Evaluation [] [], .v (.int n)]) : BodyIs mask_Evaluation___init__ 2 (b_Evaluation___init__ ca) (m_Evaluation___init__ ca) := by
  intro ms R XR _ h
  unfold m_Evaluation___init__ at h
  obtain ⟨n, rfl, h⟩ := h
  exact hbody n R XR h
theorem c_check_arguments {ca : CA} {d : D} {xs : List Int} {R : RMx} {XR : XM} (hd : Td 18 xs.length d) (hf : isF d = true) (hx : ∀ x ∈ xs, 0 ≤ x) (hcont : R (.v .non) [.v d, .v (.tup (xs.map D.int))]) : m_check_arguments ca [.v d, .v (.tup (xs.map D.int))] R XR := by
  unfold m_check_arguments
  exact ⟨d, xs, rfl, hd, hf, hx, hcont⟩
theorem i_check_arguments {ca : CA} (hbody : ∀ (d : D) (xs : List Int) (R : RMx) (XR : XM), (Td 18 xs.length d) → (isF d = true) → (∀ x ∈ xs, 0 ≤ x) → (R (.v .non) [.v d, .v (.tup (xs.map D.int))]) → b_check_arguments ca (bodyE mask_check_arguments R XR) [.v d, .v (.tup (xs.map D.int)), .gone]) : BodyIs mask_check_arguments 3 (b_check_arguments ca) (m_check_arguments ca) := by
  intro ms R XR _ h
  unfold m_check_arguments at h
  obtain ⟨d, xs, rfl, hd, hf, hx, h⟩ := h
  exact hbody d xs R XR hd hf hx h
theorem c_evaluated {ca : CA} {d : D} {xs : List Int} {b : Nat} {R : RMx} {XR : XM} (hd : Td 18 xs.length d) (hf : isF d = true) (hx : ∀ x ∈ xs, 0 ≤ x ∧ x ≤ 1000) (hl : xs.length ≤ 6) (hb : b ≤ 1000000) (hcont : (∀ v l, ap 18 d xs b = some (v, l) → R (.v (.tup [.int v, .int (b - l)])) [.v d, .v (.tup (xs.map D.int)), .v (.int b)]) ∧ (ap 18 d xs b = none → XR (.ref ca.c_TooLong, some [("limit", .int b)]) [.v d, .v (.tup (xs.map D.int)), .v (.int b)])) : m_evaluated ca [.v d, .v (.tup (xs.map D.int)), .v (.int b)] R XR := by
  unfold m_evaluated
  exact ⟨d, xs, b, rfl, hd, hf, hx, hl, hb, hcont⟩
theorem i_evaluated {ca : CA} (hbody : ∀ (d : D) (xs : List Int) (b : Nat) (R : RMx) (XR : XM), (Td 18 xs.length d) → (isF d = true) → (∀ x ∈ xs, 0 ≤ x ∧ x ≤ 1000) → (xs.length ≤ 6) → (b ≤ 1000000) → ((∀ v l, ap 18 d xs b = some (v, l) → R (.v (.tup [.int v, .int (b - l)])) [.v d, .v (.tup (xs.map D.int)), .v (.int b)]) ∧ (ap 18 d xs b = none → XR (.ref ca.c_TooLong, some [("limit", .int b)]) [.v d, .v (.tup (xs.map D.int)), .v (.int b)])) → b_evaluated ca (bodyE mask_evaluated R XR) [.v d, .v (.tup (xs.map D.int)), .v (.int b), .gone, .gone]) : BodyIs mask_evaluated 5 (b_evaluated ca) (m_evaluated ca) := by
  intro ms R XR _ h
  unfold m_evaluated at h
  obtain ⟨d, xs, b, rfl, hd, hf, hx, hl, hb, h⟩ := h
  exact hbody d xs b R XR hd hf hx hl hb h
theorem c_value {ca : CA} {d : D} {xs : List Int} {b : Nat} {R : RMx} {XR : XM} (hd : Td 18 xs.length d) (hf : isF d = true) (hx : ∀ x ∈ xs, 0 ≤ x ∧ x ≤ 1000) (hl : xs.length ≤ 6) (hb : b ≤ 1000000) (hcont : (∀ v l, ap 18 d xs b = some (v, l) → R (.v (.int v)) [.v d, .v (.tup (xs.map D.int)), .v (.int b)]) ∧ (ap 18 d xs b = none → XR (.ref ca.c_TooLong, some [("limit", .int b)]) [.v d, .v (.tup (xs.map D.int)), .v (.int b)])) : m_value ca [.v d, .v (.tup (xs.map D.int)), .v (.int b)] R XR := by
  unfold m_value
  exact ⟨d, xs, b, rfl, hd, hf, hx, hl, hb, hcont⟩
theorem i_value {ca : CA} (hbody : ∀ (d : D) (xs : List Int) (b : Nat) (R : RMx) (XR : XM), (Td 18 xs.length d) → (isF d = true) → (∀ x ∈ xs, 0 ≤ x ∧ x ≤ 1000) → (xs.length ≤ 6) → (b ≤ 1000000) → ((∀ v l, ap 18 d xs b = some (v, l) → R (.v (.int v)) [.v d, .v (.tup (xs.map D.int)), .v (.int b)]) ∧ (ap 18 d xs b = none → XR (.ref ca.c_TooLong, some [("limit", .int b)]) [.v d, .v (.tup (xs.map D.int)), .v (.int b)])) → b_value ca (bodyE mask_value R XR) [.v d, .v (.tup (xs.map D.int)), .v (.int b)]) : BodyIs mask_value 3 (b_value ca) (m_value ca) := by
  intro ms R XR _ h
  unfold m_value at h
  obtain ⟨d, xs, b, rfl, hd, hf, hx, hl, hb, h⟩ := h
  exact hbody d xs b R XR hd hf hx hl hb h
theorem c_applications {ca : CA} {d : D} {xs : List Int} {b : Nat} {R : RMx} {XR : XM} (hd : Td 18 xs.length d) (hf : isF d = true) (hx : ∀ x ∈ xs, 0 ≤ x ∧ x ≤ 1000) (hl : xs.length ≤ 6) (hb : b ≤ 1000000) (hcont : (∀ v l, ap 18 d xs b = some (v, l) → R (.v (.int (b - l))) [.v d, .v (.tup (xs.map D.int)), .v (.int b)]) ∧ (ap 18 d xs b = none → XR (.ref ca.c_TooLong, some [("limit", .int b)]) [.v d, .v (.tup (xs.map D.int)), .v (.int b)])) : m_applications ca [.v d, .v (.tup (xs.map D.int)), .v (.int b)] R XR := by
  unfold m_applications
  exact ⟨d, xs, b, rfl, hd, hf, hx, hl, hb, hcont⟩
theorem i_applications {ca : CA} (hbody : ∀ (d : D) (xs : List Int) (b : Nat) (R : RMx) (XR : XM), (Td 18 xs.length d) → (isF d = true) → (∀ x ∈ xs, 0 ≤ x ∧ x ≤ 1000) → (xs.length ≤ 6) → (b ≤ 1000000) → ((∀ v l, ap 18 d xs b = some (v, l) → R (.v (.int (b - l))) [.v d, .v (.tup (xs.map D.int)), .v (.int b)]) ∧ (ap 18 d xs b = none → XR (.ref ca.c_TooLong, some [("limit", .int b)]) [.v d, .v (.tup (xs.map D.int)), .v (.int b)])) → b_applications ca (bodyE mask_applications R XR) [.v d, .v (.tup (xs.map D.int)), .v (.int b)]) : BodyIs mask_applications 3 (b_applications ca) (m_applications ca) := by
  intro ms R XR _ h
  unfold m_applications at h
  obtain ⟨d, xs, b, rfl, hd, hf, hx, hl, hb, h⟩ := h
  exact hbody d xs b R XR hd hf hx hl hb h


theorem c__law_told {ca : CA} {d : D} {xs : List Int} {b : Nat} {w : Int} {R : RMx} {XR : XM} (hd : Td 18 xs.length d) (hf : isF d = true) (hx : ∀ x ∈ xs, 0 ≤ x ∧ x ≤ 1000) (hl : xs.length ≤ 6) (hb : b ≤ 1000000) (hcont : R (.v (toldD w b (ap 18 d xs b))) [.v d, .v (.tup (xs.map D.int)), .v (.int b), .v (.int w)]) : m__law_told ca [.v d, .v (.tup (xs.map D.int)), .v (.int b), .v (.int w)] R XR := by
  unfold m__law_told
  exact ⟨d, xs, b, w, rfl, hd, hf, hx, hl, hb, hcont⟩
theorem i__law_told {ca : CA} (hbody : ∀ (d : D) (xs : List Int) (b : Nat) (w : Int) (R : RMx) (XR : XM), (Td 18 xs.length d) → (isF d = true) → (∀ x ∈ xs, 0 ≤ x ∧ x ≤ 1000) → (xs.length ≤ 6) → (b ≤ 1000000) → (R (.v (toldD w b (ap 18 d xs b))) [.v d, .v (.tup (xs.map D.int)), .v (.int b), .v (.int w)]) → b__law_told ca (bodyE mask__law_told R XR) [.v d, .v (.tup (xs.map D.int)), .v (.int b), .v (.int w), .gone]) : BodyIs mask__law_told 5 (b__law_told ca) (m__law_told ca) := by
  intro ms R XR _ h
  unfold m__law_told at h
  obtain ⟨d, xs, b, w, rfl, hd, hf, hx, hl, hb, h⟩ := h
  exact hbody d xs b w R XR hd hf hx hl hb h
theorem c_law {ns : List Int} {R : RMx} {XR : XM} (hns : ns.length ≤ 63) (hcont : ∀ ms', R (.v (.bl true)) ms') : m_law [.v (.lst (ns.map D.int))] R XR := by
  unfold m_law
  exact ⟨ns, rfl, hns, hcont⟩
theorem i_law {ca : CA} (hbody : ∀ (ns : List Int) (R : RMx) (XR : XM), (ns.length ≤ 63) → (∀ ms', R (.v (.bl true)) ms') → b_law ca (bodyE mask_law R XR) [.v (.lst (ns.map D.int)), .gone, .gone, .gone, .gone, .gone, .gone, .gone, .gone]) : BodyIs mask_law 9 (b_law ca) (m_law) := by
  intro ms R XR _ h
  unfold m_law at h
  obtain ⟨ns, rfl, hns, h⟩ := h
  exact hbody ns R XR hns h


local macro_rules | `(tactic| walk_at "go") => `(tactic| ((conv => whnf); (repeat ((first | with_reducible refine iteP_T ?_ | with_reducible refine iteP_F ?_); (conv => whnf)))))
local macro_rules | `(tactic| walk_at "g1") => `(tactic| first | with_reducible refine iteP_T ?_ | with_reducible refine iteP_F ?_ | refine iteP_pos rfl ?_ | refine iteP_neg rfl ?_ | refine ⟨MulOk.right (by omega) (by omega), ?_⟩ | refine ⟨MulOk.left (by omega) (by omega), ?_⟩ | refine ⟨DivOk.small (by omega) (by omega), ?_⟩ | refine AllA.mk fun _ => ?_ | refine iteP_pos (decide_eq_true (by with_reducible rfl)) ?_ | refine ⟨rfl, ?_⟩ | refine Or.inl ⟨rfl, ?_⟩ | refine Or.inr (Or.inl ⟨rfl, ?_⟩) | refine Or.inr (Or.inr (Or.inl ⟨rfl, ?_⟩)) | refine ⟨(by decide : (_ : Prop)), ?_⟩ | refine ⟨(by omega : (_ : Prop)), ?_⟩ | refine ⟨(by simp only [List.length_map, List.length_append, List.length_cons, List.length_nil, List.length_replicate, List.length_reverse, sizeLine_eq]; omega : (_ : Prop)), ?_⟩ | refine iteP_pos (decide_eq_true (by omega)) ?_ | refine iteP_neg (decide_eq_false (by omega)) ?_ | refine iteP_pos (decide_eq_true (by simp only [List.length_map, List.length_append, List.length_cons, List.length_nil, List.length_reverse]; omega)) ?_ | refine iteP_neg (decide_eq_false (by simp only [List.length_map, List.length_append, List.length_cons, List.length_nil, List.length_reverse]; omega)) ?_ | refine ⟨⟨by (try rw [List.length_map]); omega, by (try rw [List.length_map]); omega⟩, ?_⟩ | refine ⟨_, rfl, ?_⟩ | refine ⟨_, rfl, rfl, ?_⟩ | refine ⟨_, _, rfl, atI_of rfl, ?_⟩ | refine ⟨_, _, rfl, atI_map rfl, ?_⟩ | refine ⟨_, _, rfl, ?_⟩)
local macro_rules | `(tactic| walk_at "gs") => `(tactic| ((conv => whnf); (repeat ((walk_at "g1"); (conv => whnf)))))
local macro_rules | `(tactic| walk_at "gx") => `(tactic| ((conv => whnf); (repeat ((first | walk_at "g1" | refine Piece.mk ?_); (conv => whnf)))))

theorem cut_drop2 {α : Type} (xs : List α) : cut xs (some 2) none = xs.drop 2 := cut_dropN xs 2
theorem iteP_nd {p : Prop} [Decidable p] {A B : Prop} (h1 : ¬ p → A) (h2 : p → B) : iteP (!decide p) A B := by
  refine iteP_b (fun z => h1 ?_) (fun z => h2 ?_)
  · simpa using z
  · simpa using z
theorem ixN_in {n : Nat} {k : Int} (h0 : 0 ≤ k) (h1 : k < n) : ixN n k = some k.toNat := by
  unfold ixN
  rw [if_pos h0, if_pos h1]
/-- a comprehension over a list, with a test, the state kept -/
theorem lc_fm {α β : Type} {f : α → D} {g : β → D} {k : Nat} {tt : FT} {te : FE} {Kf : List D → List M → Prop} {S0 : List M} (hS : S0[k]? = some .gone) (p : α → Bool) (r : α → β) {xs : List α} (hz : xs.length < sizeLine)
    (ht : ∀ x ∈ xs, ∀ T : Bool → List M → Prop, T (p x) (S0.set k (.v (f x))) → tt (S0.set k (.v (f x))) T X0)
    (he : ∀ x ∈ xs, p x = true → ∀ R : RMx, R (.v (g (r x))) (S0.set k (.v (f x))) → te (S0.set k (.v (f x))) R X0)
    (hk : Kf (((xs.filter p).map r).map g) S0) : LcL (gNm k) tt te [k] Kf (xs.map f) [] S0 := by
  have back : (S0.set k .gone) = S0 := by
    apply List.ext_getElem?
    intro j
    by_cases e : k = j
    · subst e
      rw [List.getElem?_set_self (List.getElem?_eq_some_iff.mp hS).1, hS]
    · rw [List.getElem?_set_ne e]
  refine lcL_by (fun i acc S => acc = (((xs.take i).filter p).map r).map g ∧ S = S0) ?_ ?_ _ _ ⟨rfl, rfl⟩
  · rintro i d acc S Kx hd ⟨rfl, rfl⟩ hK
    obtain ⟨x, hx, rfl⟩ := map_get hd
    have xm := List.mem_of_getElem? hx
    have hl : i < xs.length := (List.getElem?_eq_some_iff.mp hx).1
    show setK S k (.v (f x)) _
    rw [setK_eq]
    refine ht x xm _ ?_
    have bk2 : wipeM (S.set k (.v (f x))) [k] = S := by
      show ((S.set k (.v (f x))).set k .gone) = S
      rw [List.set_set]
      exact back
    have tk := take_succ' hx
    cases q : p x with
    | true =>
      refine iteP_pos rfl ?_
      refine he x xm q _ ?_
      refine ⟨?_, ?_⟩
      · have := List.length_filter_le p (xs.take i)
        rw [List.length_take] at this
        rw [List.length_map, List.length_map]
        omega
      · refine hK _ _ ⟨?_, bk2⟩
        rw [tk, List.filter_append, List.map_append, List.map_append]
        simp [List.filter, q]
    | false =>
      refine iteP_neg rfl ?_
      refine hK _ _ ⟨?_, bk2⟩
      rw [tk, List.filter_append, List.map_append, List.map_append]
      simp [List.filter, q]
  · rintro acc S ⟨rfl, rfl⟩
    rw [List.length_map, List.take_length]
    exact hk

/-! ### strip -/
theorem strip_snoc0 (xs : List Int) : strip (xs ++ [0]) = strip xs := by
  unfold strip
  rw [List.reverse_append]
  rfl
theorem strip_snoc (xs : List Int) {x : Int} (h : x ≠ 0) : strip (xs ++ [x]) = xs ++ [x] := by
  unfold strip
  rw [List.reverse_append]
  show (([x] ++ xs.reverse).dropWhile (· == 0)).reverse = _
  rw [List.singleton_append, List.dropWhile_cons_of_neg (by simpa using h), List.reverse_cons, List.reverse_reverse]
theorem strip_len (xs : List Int) : (strip xs).length ≤ xs.length := by
  unfold strip
  rw [List.length_reverse]
  exact Nat.le_trans (List.dropWhile_sublist _).length_le (by rw [List.length_reverse]; exact Nat.le_refl _)
theorem strip_self : ∀ (n : Nat) (xs : List Int), xs.length = n → strip (strip xs) = strip xs
  | 0, xs, h => by
    have e : xs = [] := List.eq_nil_of_length_eq_zero h
    subst e
    rfl
  | n + 1, xs, h => by
    have hx : xs ≠ [] := fun e => by rw [e] at h; cases h
    have e := List.dropLast_concat_getLast hx
    rw [← e]
    by_cases z : xs.getLast hx = 0
    · rw [z, strip_snoc0]
      exact strip_self n _ (by rw [List.length_dropLast]; omega)
    · rw [strip_snoc _ z, strip_snoc _ z]
theorem strip_strip (xs : List Int) : strip (strip xs) = strip xs := strip_self _ xs rfl
theorem strip_mem {xs : List Int} {x : Int} (h : x ∈ strip xs) : x ∈ xs := by
  unfold strip at h
  exact List.mem_reverse.mp ((List.dropWhile_sublist _).subset (List.mem_reverse.mp h))

theorem asM_cases {a : M} {d : D} (h : asM a = some d) : a = .v d ∨ ∃ ds, d = .lst ds ∧ a = .ml ds := by
  unfold asM at h
  split at h
  · cases h; exact .inl rfl
  · cases h; exact .inr ⟨_, rfl, rfl⟩
  · cases h
theorem bls_true : ∀ n : Nat, blsV (List.replicate n (D.bl true)) = some (List.replicate n true)
  | 0 => rfl
  | n + 1 => by
    rw [List.replicate_succ, List.replicate_succ]
    unfold blsV
    rw [bls_true n]
    rfl
theorem all_true : ∀ n : Nat, (List.replicate n true).all id = true
  | 0 => rfl
  | n + 1 => by
    rw [List.replicate_succ, List.all_cons, all_true n]
    rfl
theorem int_eta (i : Nat) : (0 : Int) + (i : Int) * 1 = (i : Int) := by omega
theorem c__law_like {n : Nat} {a b : M} {R : RMx} {XR : XM} (d : D) (ha : asM a = some d) (hb : asM b = some d) (hd : Pl true (n + 1) d) (h : R (.v (.bl true)) [a, b]) : m__law_like (n + 1) [a, b] R XR := by
  unfold m__law_like
  exact ⟨a, b, d, rfl, ha, hb, hd, h⟩
theorem like_sq (n : Nat) (a b : M) (ds : List D) (R : RMx) (XR : XM) (ha : (a = .v (.tup ds) ∧ b = .v (.tup ds)) ∨ ((a = .v (.lst ds) ∨ a = .ml ds) ∧ (b = .v (.lst ds) ∨ b = .ml ds))) (hl : ds.length ≤ 100000) (h : R (.v (.bl true)) [a, b]) (hn : ∀ d ∈ ds, Pl true n d) : b__law_like (m__law_like n) (bodyE mask__law_like R XR) [a, b, .gone] := by
  rcases ha with ⟨rfl, rfl⟩ | ⟨rfl | rfl, rfl | rfl⟩
  all_goals
    walk_at "gx"
    refine lcL_by (fun i acc S => acc = List.replicate i (.bl true) ∧ S = [_, _, .gone]) ?_ ?_ _ _ ⟨rfl, rfl⟩
    · rintro i d acc S Kx hd ⟨rfl, rfl⟩ hK
      obtain ⟨hi, rfl⟩ := rngD_get hd
      rw [Int.toNat_natCast] at hi
      walk_at "gx"
      have e1 : atI ds (0 + (i : Int) * 1) = some ds[i] := by
        rw [int_eta]
        exact L2.atI_nat (List.getElem?_eq_getElem hi)
      refine ⟨_, _, rfl, e1, ?_⟩
      walk_at "gx"
      refine ⟨_, _, rfl, e1, ?_⟩
      walk_at "gx"
      have hp := hn ds[i] (List.getElem_mem hi)
      cases n with
      | zero => exact hp.elim
      | succ n =>
        refine c__law_like _ rfl rfl hp ?_
        walk_at "gx"
        refine hK _ _ ⟨?_, rfl⟩
        rw [List.replicate_succ']
    · rintro acc S ⟨rfl, rfl⟩
      walk_at "gx"
      rw [rngD_len, Int.toNat_natCast]
      refine ⟨_, _, rfl, bls_true _, ?_⟩
      rw [all_true]
      walk_at "gx"
      exact h
theorem is__law_like (n : Nat) : BodyIs mask__law_like 3 (b__law_like (m__law_like n)) (m__law_like (n + 1)) := by
  intro ms R XR _ h
  unfold m__law_like at h
  obtain ⟨a, b, d, rfl, ha, hb, hd, h⟩ := h
  show b__law_like (m__law_like n) (bodyE mask__law_like R XR) [a, b, .gone]
  cases d with
  | lst ds =>
    refine like_sq n _ _ ds R XR (.inr ⟨?_, ?_⟩) hd.1 h hd.2
    · rcases asM_cases ha with rfl | ⟨_, q, rfl⟩
      · exact .inl rfl
      · cases q
        exact .inr rfl
    · rcases asM_cases hb with rfl | ⟨_, q, rfl⟩
      · exact .inl rfl
      · cases q
        exact .inr rfl
  | tup ds =>
    rcases asM_cases ha with rfl | ⟨_, q, rfl⟩
    · rcases asM_cases hb with rfl | ⟨_, q, rfl⟩
      · exact like_sq n _ _ ds R XR (.inl ⟨rfl, rfl⟩) hd.1 h hd.2
      · cases q
    · cases q
  | non =>
    rcases asM_cases ha with rfl | ⟨_, q, rfl⟩
    · rcases asM_cases hb with rfl | ⟨_, q, rfl⟩
      · walk_at "gx"
        exact h
      · cases q
    · cases q
  | bl x =>
    rcases asM_cases ha with rfl | ⟨_, q, rfl⟩
    · rcases asM_cases hb with rfl | ⟨_, q, rfl⟩
      · walk_at "gx"
        rw [decide_eq_true rfl]
        exact h
      · cases q
    · cases q
  | int x =>
    rcases asM_cases ha with rfl | ⟨_, q, rfl⟩
    · rcases asM_cases hb with rfl | ⟨_, q, rfl⟩
      · walk_at "gx"
        rw [decide_eq_true rfl]
        exact h
      · cases q
    · cases q
  | str x =>
    rcases asM_cases ha with rfl | ⟨_, q, rfl⟩
    · rcases asM_cases hb with rfl | ⟨_, q, rfl⟩
      · walk_at "gx"
        rw [decide_eq_true rfl]
        exact h
      · cases q
    · cases q
  | _ => exact hd.elim

theorem is__law_cell : BodyIs mask__law_cell 2 b__law_cell m__law_cell := by
  refine i__law_cell fun ns k R XR hk h => ?_
  walk_at "gx"
  refine iteP_d (fun g => ?_) (fun g => ?_)
  · rw [List.length_map] at g
    walk_at "gx"
    refine ix_mem (f := D.int) (xs := ns) rfl hk g fun x _ => ?_
    walk_at "gx"
    refine h _ ?_
    split <;> omega
  · walk_at "gx"
    exact h 0 (Int.le_refl _)
theorem is__law_draws : BodyIs mask__law_draws 6 b__law_draws m__law_draws := by
  refine i__law_draws fun c n R XR h0 hn0 hn1 h => ?_
  walk_at "gx"
  refine forL_by (fun i S => ∃ (xs : List Int) (l : Int) (a b : M), S = [.v (.int c), .v (.int n), .ml (xs.map D.int), .v (.int l), a, b] ∧ xs.length = i ∧ ∀ x ∈ xs, 0 ≤ x ∧ x < 4096) ?_ ?_ _ ⟨[], _, _, _, rfl, rfl, fun _ z => nomatch z⟩
  · rintro i d S Kx hi ⟨xs, l, a, b, rfl, hl, hx⟩ hK
    obtain ⟨hi, rfl⟩ := rngD_get hi
    have put : ∀ z : Int, 0 ≤ z → z < 4096 → ∀ y ∈ xs ++ [z], 0 ≤ y ∧ y < 4096 := fun z z0 z1 y hy => by
      rcases List.mem_append.mp hy with q | q
      · exact hx y q
      · rw [List.mem_singleton.mp q]
        exact ⟨z0, z1⟩
    have fin : ∀ (z l : Int) (a b : M), 0 ≤ z → z < 4096 → Kx [.v (.int c), .v (.int n), .ml (xs.map D.int ++ [.int z]), .v (.int l), a, b] := fun z l a b z0 z1 =>
      hK _ ⟨xs ++ [z], _, _, _, by rw [List.map_append]; rfl, by rw [List.length_append, hl]; rfl, put z z0 z1⟩
    walk_at "gx"
    refine iteP_d (fun g => ?_) (fun g => ?_)
    · walk_at "gx"
      refine iteP_d (fun g2 => ?_) (fun g2 => ?_)
      · walk_at "gx"
        exact fin _ _ _ _ (by omega) (by omega)
      · walk_at "gx"
        exact fin _ _ _ _ (by omega) (by omega)
    · walk_at "gx"
      exact fin _ _ _ _ (by omega) (by omega)
  · rintro S ⟨xs, l, a, b, rfl, hl, hx⟩
    rw [rngD_len] at hl
    walk_at "gx"
    exact h xs ⟨hl, hx⟩

theorem Fd.up : ∀ {n m : Nat} {d : D}, Fd n d → n ≤ m → Fd m d
  | 0, _, _, h, _ => h.elim
  | n + 1, 0, _, _, l => absurd l (Nat.not_succ_le_zero _)
  | n + 1, m + 1, d, h, l => by
    have l : n ≤ m := Nat.le_of_succ_le_succ l
    rcases h with h | h | h | ⟨f, gs, e, z, h1, h2⟩ | ⟨f, g, e, h1, h2⟩ | ⟨f, e, h1⟩
    · exact .inl h
    · exact .inr (.inl h)
    · exact .inr (.inr (.inl h))
    · exact .inr (.inr (.inr (.inl ⟨f, gs, e, z, Fd.up h1 l, fun g hg => Fd.up (h2 g hg) l⟩)))
    · exact .inr (.inr (.inr (.inr (.inl ⟨f, g, e, Fd.up h1 l, Fd.up h2 l⟩))))
    · exact .inr (.inr (.inr (.inr (.inr ⟨f, e, Fd.up h1 l⟩))))
theorem Ar.up1 : ∀ {n : Nat} {d : D} {v : Int}, Ar n d v → Ar (n + 1) d v
  | 0, _, _, h => h.elim
  | n + 1, d, v, h => by
    rcases h with h | h | h | ⟨f, g, gs, e, h1⟩ | ⟨f, g, w, e, h1, h2⟩ | ⟨f, w, e, h1, h2⟩
    · exact .inl h
    · exact .inr (.inl h)
    · exact .inr (.inr (.inl h))
    · exact .inr (.inr (.inr (.inl ⟨f, g, gs, e, Ar.up1 h1⟩)))
    · exact .inr (.inr (.inr (.inr (.inl ⟨f, g, w, e, Ar.up1 h1, h2⟩))))
    · exact .inr (.inr (.inr (.inr (.inr ⟨f, w, e, Ar.up1 h1, h2⟩))))
theorem pt_zero {a : Int} : partsD (zeroD a) = [] := rfl
theorem pt_arg {a i : Int} : partsD (argD a i) = [] := rfl
theorem pt_next : partsD nextD = [] := rfl
theorem pt_of {f : D} {gs : List D} : partsD (ofD f gs) = f :: gs := rfl
theorem pt_rep {f g : D} : partsD (repD f g) = [f, g] := rfl
theorem pt_least {f : D} : partsD (leastD f) = [f] := rfl
theorem ar_zero {n : Nat} {a : Int} : arD (n + 1) (zeroD a) = a := rfl
theorem ar_arg {n : Nat} {a i : Int} : arD (n + 1) (argD a i) = a := rfl
theorem ar_next {n : Nat} : arD (n + 1) nextD = 1 := rfl
theorem ar_of {n : Nat} {f g : D} {gs : List D} : arD (n + 1) (ofD f (g :: gs)) = arD n g := rfl
theorem ar_rep {n : Nat} {f g : D} : arD (n + 1) (repD f g) = arD n f + 1 := rfl
theorem ar_least {n : Nat} {f : D} : arD (n + 1) (leastD f) = arD n f - 1 := rfl
theorem loc_zero {a : Int} : locD (zeroD a) = decide (0 ≤ a ∧ a ≤ 6) := rfl
theorem loc_arg {a i : Int} : locD (argD a i) = decide ((1 ≤ a ∧ a ≤ 6) ∧ 0 ≤ i ∧ i < a) := rfl
theorem loc_next : locD nextD = true := rfl
theorem loc_of {f : D} {gs : List D} : locD (ofD f gs) = (decide (gs ≠ []) && (decide (ar f = (gs.length : Nat)) && gs.all fun g => decide (ar g = ar (gs.headD .non)))) := rfl
theorem loc_rep {f g : D} : locD (repD f g) = (decide (ar f < 6) && decide (ar g = ar f + 2)) := rfl
theorem loc_least {f : D} : locD (leastD f) = decide (1 ≤ ar f) := rfl
theorem ar_ok : ∀ {n m : Nat} {d : D}, Fd n d → n ≤ m → rightD n d = true → Ar m d (arD m d)
  | 0, _, _, h, _, _ => h.elim
  | n + 1, 0, _, _, l, _ => absurd l (Nat.not_succ_le_zero _)
  | n + 1, m + 1, d, h, l, r => by
    have l : n ≤ m := Nat.le_of_succ_le_succ l
    have r2 := (Bool.and_eq_true _ _ ▸ r : (partsD d).all (rightD n) = true ∧ locD d = true)
    obtain ⟨r1, r2⟩ := r2
    rcases h with ⟨a, rfl⟩ | ⟨a, i, rfl⟩ | rfl | ⟨f, gs, rfl, z, h1, h2⟩ | ⟨f, g, rfl, h1, h2⟩ | ⟨f, rfl, h1⟩
    · exact .inl rfl
    · exact .inr (.inl ⟨i, rfl⟩)
    · exact .inr (.inr (.inl ⟨rfl, rfl⟩))
    · rw [loc_of] at r2
      cases gs with
      | nil => cases r2
      | cons g gs =>
        refine .inr (.inr (.inr (.inl ⟨f, g, gs, rfl, ?_⟩)))
        rw [pt_of] at r1
        exact ar_ok (h2 g List.mem_cons_self) l (List.all_eq_true.mp r1 g (List.mem_cons_of_mem _ List.mem_cons_self))
    · rw [pt_rep] at r1
      exact .inr (.inr (.inr (.inr (.inl ⟨f, g, _, rfl, ar_ok h1 l (List.all_eq_true.mp r1 f List.mem_cons_self), rfl⟩))))
    · rw [pt_least] at r1
      exact .inr (.inr (.inr (.inr (.inr ⟨f, _, rfl, ar_ok h1 l (List.all_eq_true.mp r1 f List.mem_cons_self), rfl⟩))))
theorem is_parts : BodyIs mask_parts 1 b_parts m_parts := by
  refine i_parts fun n d R XR hd h => ?_
  rcases hd with ⟨a, rfl⟩ | ⟨a, i, rfl⟩ | rfl | ⟨f, gs, rfl, z, h1, h2⟩ | ⟨f, g, rfl, h1, h2⟩ | ⟨f, rfl, h1⟩
  · walk_at "gx"
    refine ⟨["repeat", "least"], rfl, ?_⟩
    rw [show (decide ((Str.ofString "zero") ∈ [Str.ofString "repeat", Str.ofString "least"]) ^^ false) = false from by decide]
    walk_at "gx"
    exact h
  · walk_at "gx"
    refine ⟨["repeat", "least"], rfl, ?_⟩
    rw [show (decide ((Str.ofString "arg") ∈ [Str.ofString "repeat", Str.ofString "least"]) ^^ false) = false from by decide]
    walk_at "gx"
    exact h
  · walk_at "gx"
    refine ⟨["repeat", "least"], rfl, ?_⟩
    rw [show (decide ((Str.ofString "next") ∈ [Str.ofString "repeat", Str.ofString "least"]) ^^ false) = false from by decide]
    walk_at "gx"
    exact h
  · walk_at "gx"
    refine ⟨[f], gs, rfl, rfl, by rw [sizeLine_eq]; show 1 + gs.length ≤ _; omega, ?_⟩
    walk_at "gx"
    exact h
  · walk_at "gx"
    refine ⟨["repeat", "least"], rfl, ?_⟩
    rw [show (decide ((Str.ofString "repeat") ∈ [Str.ofString "repeat", Str.ofString "least"]) ^^ false) = true from by decide]
    walk_at "gx"
    exact h
  · walk_at "gx"
    refine ⟨["repeat", "least"], rfl, ?_⟩
    rw [show (decide ((Str.ofString "least") ∈ [Str.ofString "repeat", Str.ofString "least"]) ^^ false) = true from by decide]
    walk_at "gx"
    exact h
theorem is__law_pieces : BodyIs mask__law_pieces 1 b__law_pieces m__law_pieces := by
  refine i__law_pieces fun n d R XR hd h => ?_
  rcases hd with ⟨a, rfl⟩ | ⟨a, i, rfl⟩ | rfl | ⟨f, gs, rfl, z, h1, h2⟩ | ⟨f, g, rfl, h1, h2⟩ | ⟨f, rfl, h1⟩
  · walk_at "gx"
    refine ⟨["repeat", "least"], rfl, ?_⟩
    rw [show (decide ((Str.ofString "zero") ∈ [Str.ofString "repeat", Str.ofString "least"]) ^^ false) = false from by decide]
    walk_at "gx"
    exact h
  · walk_at "gx"
    refine ⟨["repeat", "least"], rfl, ?_⟩
    rw [show (decide ((Str.ofString "arg") ∈ [Str.ofString "repeat", Str.ofString "least"]) ^^ false) = false from by decide]
    walk_at "gx"
    exact h
  · walk_at "gx"
    refine ⟨["repeat", "least"], rfl, ?_⟩
    rw [show (decide ((Str.ofString "next") ∈ [Str.ofString "repeat", Str.ofString "least"]) ^^ false) = false from by decide]
    walk_at "gx"
    exact h
  · walk_at "gx"
    refine ⟨[f], gs, rfl, rfl, by rw [sizeLine_eq]; show 1 + gs.length ≤ _; omega, ?_⟩
    walk_at "gx"
    exact h
  · walk_at "gx"
    refine ⟨["repeat", "least"], rfl, ?_⟩
    rw [show (decide ((Str.ofString "repeat") ∈ [Str.ofString "repeat", Str.ofString "least"]) ^^ false) = true from by decide]
    walk_at "gx"
    exact h
  · walk_at "gx"
    refine ⟨["repeat", "least"], rfl, ?_⟩
    rw [show (decide ((Str.ofString "least") ∈ [Str.ofString "repeat", Str.ofString "least"]) ^^ false) = true from by decide]
    walk_at "gx"
    exact h
theorem parts_len {n : Nat} {d : D} (h : Fd (n + 1) d) : (partsD d).length ≤ 3 := by
  rcases h with ⟨a, rfl⟩ | ⟨a, i, rfl⟩ | rfl | ⟨f, gs, rfl, z, h1, h2⟩ | ⟨f, g, rfl, h1, h2⟩ | ⟨f, rfl, h1⟩
  · rw [pt_zero]; decide
  · rw [pt_arg]; decide
  · rw [pt_next]; decide
  · rw [pt_of, List.length_cons]; omega
  · rw [pt_rep]; exact Nat.le_of_ble_eq_true rfl
  · rw [pt_least]; exact Nat.le_of_ble_eq_true rfl
theorem fd_parts {n : Nat} {d : D} (h : Fd (n + 1) d) : ∀ p ∈ partsD d, Fd n p := by
  rcases h with ⟨a, rfl⟩ | ⟨a, i, rfl⟩ | rfl | ⟨f, gs, rfl, z, h1, h2⟩ | ⟨f, g, rfl, h1, h2⟩ | ⟨f, rfl, h1⟩
  · exact fun _ h => nomatch h
  · exact fun _ h => nomatch h
  · exact fun _ h => nomatch h
  · intro p hp
    rw [pt_of] at hp
    rcases List.mem_cons.mp hp with rfl | w
    · exact h1
    · exact h2 p w
  · intro p hp
    rw [pt_rep] at hp
    rcases List.mem_cons.mp hp with rfl | w
    · exact h1
    · rw [List.mem_singleton.mp w]
      exact h2
  · intro p hp
    rw [pt_least] at hp
    rw [List.mem_singleton.mp hp]
    exact h1
theorem fold_ge : ∀ {ns : List Int} {a : Int}, a ≤ ns.foldl max a ∧ ∀ y ∈ ns, y ≤ ns.foldl max a
  | [], a => ⟨Int.le_refl a, fun _ h => nomatch h⟩
  | n :: ns, a => by
    obtain ⟨h1, h2⟩ := fold_ge (ns := ns) (a := max a n)
    refine ⟨Int.le_trans (Int.le_max_left a n) h1, fun y hy => ?_⟩
    rcases List.mem_cons.mp hy with rfl | w
    · exact Int.le_trans (Int.le_max_right a y) h1
    · exact h2 y w
theorem fold_le : ∀ {ns : List Int} {a m : Int}, a ≤ m → (∀ y ∈ ns, y ≤ m) → ns.foldl max a ≤ m
  | [], a, m, h, _ => h
  | n :: ns, a, m, h, h2 => fold_le (ns := ns) (Int.max_le.mpr ⟨h, h2 n List.mem_cons_self⟩) fun y hy => h2 y (List.mem_cons_of_mem _ hy)
theorem fold_is {ns : List Int} {m : Int} (h0 : ∀ y ∈ ns, 0 ≤ y) (hm : m ∈ ns) (h : ∀ y ∈ ns, y ≤ m) : ns.foldl max 0 = m :=
  Int.le_antisymm (fold_le (h0 m hm) h) (fold_ge.2 m hm)
theorem deep_ge {n : Nat} {d : D} : 0 ≤ deepD n d := by
  cases n with
  | zero => exact Int.le_refl 0
  | succ n =>
    unfold deepD
    have := (fold_ge (ns := (partsD d).map (deepD n)) (a := 0)).1
    omega
theorem c_depth {n : Nat} {d : D} {R : RMx} {XR : XM} (hd : Fd (n + 1) d) (h : R (.v (.int (deepD (n + 1) d))) [.v d]) : m_depth (n + 1) [.v d] R XR := by
  unfold m_depth
  exact ⟨d, rfl, hd, h⟩
theorem is_depth (n : Nat) : BodyIs mask_depth 2 (b_depth (m_depth n)) (m_depth (n + 1)) := by
  intro ms R XR _ h
  unfold m_depth at h
  obtain ⟨d, rfl, hd, h⟩ := h
  show b_depth (m_depth n) (bodyE mask_depth R XR) [_, .gone]
  walk_at "gx"
  refine c_parts hd ?_
  walk_at "gx"
  refine lcL_by (fun i acc S => acc = ((partsD d).take i).map (fun p => D.int (deepD n p)) ∧ S = [.v d, .gone]) ?_ ?_ _ _ ⟨rfl, rfl⟩
  · rintro i p acc S Kx hi ⟨rfl, rfl⟩ hK
    have hp := fd_parts hd p (List.mem_of_getElem? hi)
    cases n with
    | zero => exact hp.elim
    | succ n =>
      walk_at "gx"
      refine c_depth hp ?_
      walk_at "gx"
      have pl := parts_len hd
      refine ⟨?_, hK _ _ ⟨?_, rfl⟩⟩
      · rw [List.length_map, List.length_take, sizeLine_eq]
        omega
      · rw [take_succ' hi, List.map_append]
        rfl
  · rintro acc S ⟨rfl, rfl⟩
    rw [List.take_length]
    walk_at "gx"
    refine ⟨(partsD d).map (deepD n), by rw [List.map_map]; rfl, fun e => ?_, fun m m1 m2 => ?_⟩
    · walk_at "gx"
      have e2 : deepD (n + 1) d = 1 + 0 := by
        unfold deepD
        rw [e]
        rfl
      rw [e2] at h
      exact h
    · walk_at "gx"
      have e2 : deepD (n + 1) d = 1 + m := by
        unfold deepD
        rw [fold_is (fun y hy => ?_) m1 m2]
        obtain ⟨p, _, rfl⟩ := List.mem_map.mp hy
        exact deep_ge
      rw [e2] at h
      exact h
theorem c_count_parts {n : Nat} {d : D} {R : RMx} {XR : XM} (hd : Fd (n + 1) d) (h : R (.v (.int (countD (n + 1) d))) [.v d]) : m_count_parts (n + 1) [.v d] R XR := by
  unfold m_count_parts
  exact ⟨d, rfl, hd, h⟩
theorem is_count_parts (n : Nat) : BodyIs mask_count_parts 2 (b_count_parts (m_count_parts n)) (m_count_parts (n + 1)) := by
  intro ms R XR _ h
  unfold m_count_parts at h
  obtain ⟨d, rfl, hd, h⟩ := h
  show b_count_parts (m_count_parts n) (bodyE mask_count_parts R XR) [_, .gone]
  walk_at "gx"
  refine c_parts hd ?_
  walk_at "gx"
  refine lcL_by (fun i acc S => acc = ((partsD d).take i).map (fun p => D.int (countD n p)) ∧ S = [.v d, .gone]) ?_ ?_ _ _ ⟨rfl, rfl⟩
  · rintro i p acc S Kx hi ⟨rfl, rfl⟩ hK
    have hp := fd_parts hd p (List.mem_of_getElem? hi)
    cases n with
    | zero => exact hp.elim
    | succ n =>
      walk_at "gx"
      refine c_count_parts hp ?_
      walk_at "gx"
      have pl := parts_len hd
      refine ⟨?_, hK _ _ ⟨?_, rfl⟩⟩
      · rw [List.length_map, List.length_take, sizeLine_eq]
        omega
      · rw [take_succ' hi, List.map_append]
        rfl
  · rintro acc S ⟨rfl, rfl⟩
    rw [List.take_length]
    walk_at "gx"
    refine ⟨(partsD d).map (countD n), by rw [List.map_map]; rfl, ?_⟩
    walk_at "gx"
    exact h
theorem c__law_deep {n : Nat} {d : D} {R : RMx} {XR : XM} (hd : Fd (n + 1) d) (h : R (.v (.int (deepD (n + 1) d))) [.v d]) : m__law_deep (n + 1) [.v d] R XR := by
  unfold m__law_deep
  exact ⟨d, rfl, hd, h⟩
theorem is__law_deep (n : Nat) : BodyIs mask__law_deep 3 (b__law_deep (m__law_deep n)) (m__law_deep (n + 1)) := by
  intro ms R XR _ h
  unfold m__law_deep at h
  obtain ⟨d, rfl, hd, h⟩ := h
  show b__law_deep (m__law_deep n) (bodyE mask__law_deep R XR) [_, .gone, .gone]
  walk_at "gx"
  refine c__law_pieces hd ?_
  walk_at "gx"
  refine forL_by (fun i S => ∃ a2 : M, S = [.v d, .v (.int ((((partsD d).take i).map (deepD n)).foldl max 0)), a2]) ?_ ?_ _ ⟨_, rfl⟩
  · rintro i p S Kx hi ⟨a2, rfl⟩ hK
    have hp := fd_parts hd p (List.mem_of_getElem? hi)
    cases n with
    | zero => exact hp.elim
    | succ n =>
      walk_at "gx"
      refine c__law_deep hp ?_
      walk_at "gx"
      have k := hK _ ⟨.v p, rfl⟩
      rw [take_succ' hi, List.map_append, List.foldl_append] at k
      have e : ∀ a b : Int, (if b > a then b else a) = max a b := fun a b => by
        split <;> omega
      rw [e]
      exact k
  · rintro S ⟨a2, rfl⟩
    rw [List.take_length]
    walk_at "gx"
    have e2 : deepD (n + 1) d = ((partsD d).map (deepD n)).foldl max 0 + 1 := by
      unfold deepD
      exact Int.add_comm _ _
    rw [e2] at h
    exact h
theorem c__law_count {n : Nat} {d : D} {R : RMx} {XR : XM} (hd : Fd (n + 1) d) (h : R (.v (.int (countD (n + 1) d))) [.v d]) : m__law_count (n + 1) [.v d] R XR := by
  unfold m__law_count
  exact ⟨d, rfl, hd, h⟩
theorem is__law_count (n : Nat) : BodyIs mask__law_count 3 (b__law_count (m__law_count n)) (m__law_count (n + 1)) := by
  intro ms R XR _ h
  unfold m__law_count at h
  obtain ⟨d, rfl, hd, h⟩ := h
  show b__law_count (m__law_count n) (bodyE mask__law_count R XR) [_, .gone, .gone]
  walk_at "gx"
  refine c__law_pieces hd ?_
  walk_at "gx"
  refine forL_by (fun i S => ∃ a2 : M, S = [.v d, .v (.int (1 + (((partsD d).take i).map (countD n)).sum)), a2]) ?_ ?_ _ ⟨_, rfl⟩
  · rintro i p S Kx hi ⟨a2, rfl⟩ hK
    have hp := fd_parts hd p (List.mem_of_getElem? hi)
    cases n with
    | zero => exact hp.elim
    | succ n =>
      walk_at "gx"
      refine c__law_count hp ?_
      walk_at "gx"
      have k := hK _ ⟨.v p, rfl⟩
      rw [take_succ' hi, List.map_append, List.sum_append, ← Int.add_assoc] at k
      have e : ([p].map (countD (n + 1))).sum = countD (n + 1) p := Int.add_zero _
      rw [e] at k
      exact k
  · rintro S ⟨a2, rfl⟩
    rw [List.take_length]
    walk_at "gx"
    exact h
theorem c_arity {n : Nat} {d : D} {v : Int} {R : RMx} {XR : XM} (hd : Ar (n + 1) d v) (h : R (.v (.int v)) [.v d]) : m_arity (n + 1) [.v d] R XR := by
  unfold m_arity
  exact ⟨d, v, rfl, hd, h⟩
theorem is_arity (n : Nat) : BodyIs mask_arity 2 (b_arity (m_arity n)) (m_arity (n + 1)) := by
  intro ms R XR _ h
  unfold m_arity at h
  obtain ⟨d, v, rfl, hd, h⟩ := h
  show b_arity (m_arity n) (bodyE mask_arity R XR) [_, .gone]
  rcases hd with rfl | ⟨i, rfl⟩ | ⟨rfl, rfl⟩ | ⟨f, g, gs, rfl, h1⟩ | ⟨f, g, w, rfl, h1, rfl⟩ | ⟨f, w, rfl, h1, rfl⟩
  · walk_at "gx"
    refine ⟨["zero", "arg"], rfl, ?_⟩
    rw [show (decide ((Str.ofString "zero") ∈ [Str.ofString "zero", Str.ofString "arg"]) ^^ false) = true from by decide]
    walk_at "gx"
    exact h
  · walk_at "gx"
    refine ⟨["zero", "arg"], rfl, ?_⟩
    rw [show (decide ((Str.ofString "arg") ∈ [Str.ofString "zero", Str.ofString "arg"]) ^^ false) = true from by decide]
    walk_at "gx"
    exact h
  · walk_at "gx"
    refine ⟨["zero", "arg"], rfl, ?_⟩
    rw [show (decide ((Str.ofString "next") ∈ [Str.ofString "zero", Str.ofString "arg"]) ^^ false) = false from by decide]
    walk_at "gx"
    exact h
  · walk_at "gx"
    refine ⟨["zero", "arg"], rfl, ?_⟩
    rw [show (decide ((Str.ofString "of") ∈ [Str.ofString "zero", Str.ofString "arg"]) ^^ false) = false from by decide]
    walk_at "gx"
    cases n with
    | zero => exact h1.elim
    | succ n =>
      refine c_arity h1 ?_
      walk_at "gx"
      exact h
  · walk_at "gx"
    refine ⟨["zero", "arg"], rfl, ?_⟩
    rw [show (decide ((Str.ofString "repeat") ∈ [Str.ofString "zero", Str.ofString "arg"]) ^^ false) = false from by decide]
    walk_at "gx"
    cases n with
    | zero => exact h1.elim
    | succ n =>
      refine c_arity h1 ?_
      walk_at "gx"
      exact h
  · walk_at "gx"
    refine ⟨["zero", "arg"], rfl, ?_⟩
    rw [show (decide ((Str.ofString "least") ∈ [Str.ofString "zero", Str.ofString "arg"]) ^^ false) = false from by decide]
    walk_at "gx"
    cases n with
    | zero => exact h1.elim
    | succ n =>
      refine c_arity h1 ?_
      walk_at "gx"
      exact h
theorem c__law_arity {n : Nat} {d : D} {v : Int} {R : RMx} {XR : XM} (hd : Ar (n + 1) d v) (h : R (.v (.int v)) [.v d]) : m__law_arity (n + 1) [.v d] R XR := by
  unfold m__law_arity
  exact ⟨d, v, rfl, hd, h⟩
theorem is__law_arity (n : Nat) : BodyIs mask__law_arity 2 (b__law_arity (m__law_arity n)) (m__law_arity (n + 1)) := by
  intro ms R XR _ h
  unfold m__law_arity at h
  obtain ⟨d, v, rfl, hd, h⟩ := h
  show b__law_arity (m__law_arity n) (bodyE mask__law_arity R XR) [_, .gone]
  rcases hd with rfl | ⟨i, rfl⟩ | ⟨rfl, rfl⟩ | ⟨f, g, gs, rfl, h1⟩ | ⟨f, g, w, rfl, h1, rfl⟩ | ⟨f, w, rfl, h1, rfl⟩
  · walk_at "gx"
    refine ⟨["zero", "arg"], rfl, ?_⟩
    rw [show (decide ((Str.ofString "zero") ∈ [Str.ofString "zero", Str.ofString "arg"]) ^^ false) = true from by decide]
    walk_at "gx"
    exact h
  · walk_at "gx"
    refine ⟨["zero", "arg"], rfl, ?_⟩
    rw [show (decide ((Str.ofString "arg") ∈ [Str.ofString "zero", Str.ofString "arg"]) ^^ false) = true from by decide]
    walk_at "gx"
    exact h
  · walk_at "gx"
    refine ⟨["zero", "arg"], rfl, ?_⟩
    rw [show (decide ((Str.ofString "next") ∈ [Str.ofString "zero", Str.ofString "arg"]) ^^ false) = false from by decide]
    walk_at "gx"
    exact h
  · walk_at "gx"
    refine ⟨["zero", "arg"], rfl, ?_⟩
    rw [show (decide ((Str.ofString "of") ∈ [Str.ofString "zero", Str.ofString "arg"]) ^^ false) = false from by decide]
    walk_at "gx"
    cases n with
    | zero => exact h1.elim
    | succ n =>
      refine c__law_arity h1 ?_
      walk_at "gx"
      exact h
  · walk_at "gx"
    refine ⟨["zero", "arg"], rfl, ?_⟩
    rw [show (decide ((Str.ofString "repeat") ∈ [Str.ofString "zero", Str.ofString "arg"]) ^^ false) = false from by decide]
    walk_at "gx"
    cases n with
    | zero => exact h1.elim
    | succ n =>
      refine c__law_arity h1 ?_
      walk_at "gx"
      exact h
  · walk_at "gx"
    refine ⟨["zero", "arg"], rfl, ?_⟩
    rw [show (decide ((Str.ofString "least") ∈ [Str.ofString "zero", Str.ofString "arg"]) ^^ false) = false from by decide]
    walk_at "gx"
    cases n with
    | zero => exact h1.elim
    | succ n =>
      refine c__law_arity h1 ?_
      walk_at "gx"
      exact h
theorem c_has_right_arities {n : Nat} {d : D} {R : RMx} {XR : XM} (hn : n ≤ 17) (hd : Fd (n + 1) d) (h : R (.v (.bl (rightD (n + 1) d))) [.v d]) : m_has_right_arities (n + 1) [.v d] R XR := by
  unfold m_has_right_arities
  exact ⟨d, rfl, hn, hd, h⟩
theorem gl_id {k : Nat} {te : FE} {Kf : Bool → List M → Prop} {S0 : List M} (hS : S0[k]? = some .gone) (p : D → Bool) {xs : List D}
    (h : ∀ x ∈ xs, ∀ R : RMx, R (.v (.bl (p x))) (S0.set k (.v x)) → te (S0.set k (.v x)) R X0) (hk : Kf (xs.all p) S0) : GxL (gNm k) te [k] false Kf xs S0 := by
  have := gl_all (f := fun x : D => x) hS p (xs := xs) h hk
  rwa [List.map_id'] at this
theorem all_false {n : Nat} {d : D} (h : (partsD d).all (rightD n) = false) : rightD (n + 1) d = false := by
  unfold rightD
  rw [h]
  rfl
theorem all_true' {n : Nat} {d : D} (h : (partsD d).all (rightD n) = true) : rightD (n + 1) d = locD d := by
  unfold rightD
  rw [h]
  rfl
theorem is_has_right_arities (n : Nat) : BodyIs mask_has_right_arities 5 (b_has_right_arities (m_has_right_arities n)) (m_has_right_arities (n + 1)) := by
  intro ms R XR _ h
  unfold m_has_right_arities at h
  obtain ⟨d, rfl, hn, hd, h⟩ := h
  show b_has_right_arities (m_has_right_arities n) (bodyE mask_has_right_arities R XR) [_, .gone, .gone, .gone, .gone]
  have hp := fd_parts hd
  have rec' : ∀ (kd : M) (Kf : Bool → List M → Prop), Kf ((partsD d).all (rightD n)) [.v d, kd, .gone, .gone, .gone] → GxL (gNm 3) (fCall (m_has_right_arities n) 1 (osCons (oM (fV 3)) osNil)) [3] false Kf (partsD d) [.v d, kd, .gone, .gone, .gone] := fun kd Kf hK => by
    refine gl_id rfl (rightD n) (fun x hx R hR => ?_) hK
    have hx := hp x hx
    cases n with
    | zero => exact hx.elim
    | succ n =>
      walk_at "gx"
      refine c_has_right_arities (by omega) hx ?_
      walk_at "gx"
      exact hR
  have arp : ∀ p, Fd n p → rightD n p = true → Ar 17 p (ar p) := fun p h1 h2 => ar_ok h1 hn h2
  have hd' := hd
  rcases hd with ⟨a, rfl⟩ | ⟨a, i, rfl⟩ | rfl | ⟨f, gs, rfl, z, h1, h2⟩ | ⟨f, g, rfl, h1, h2⟩ | ⟨f, rfl, h1⟩
  · have e : rightD (n + 1) (zeroD a) = decide (0 ≤ a ∧ a ≤ 6) := rfl
    rw [e] at h
    walk_at "gx"
    refine iteP_d (fun g => ?_) (fun g => ?_)
    · walk_at "gx"
      rw [show decide (0 ≤ a ∧ a ≤ 6) = decide (a ≤ 6) from dec_iff ⟨fun z => z.2, fun z => ⟨g, z⟩⟩] at h
      exact h
    · rw [decide_eq_false (fun z => g z.1)] at h
      first | (walk_at "gx"; exact h) | exact h
  · have e : rightD (n + 1) (argD a i) = decide ((1 ≤ a ∧ a ≤ 6) ∧ 0 ≤ i ∧ i < a) := rfl
    rw [e] at h
    walk_at "gx"
    refine iteP_d (fun g => ?_) (fun g => ?_)
    · walk_at "gx"
      refine iteP_d (fun g2 => ?_) (fun g2 => ?_)
      · walk_at "gx"
        refine iteP_d (fun g3 => ?_) (fun g3 => ?_)
        · walk_at "gx"
          rw [show decide ((1 ≤ a ∧ a ≤ 6) ∧ 0 ≤ i ∧ i < a) = decide (i < a) from dec_iff ⟨fun z => z.2.2, fun z => ⟨⟨g, g2⟩, g3, z⟩⟩] at h
          exact h
        · rw [decide_eq_false (fun z => g3 z.2.1)] at h
          first | (walk_at "gx"; exact h) | exact h
      · rw [decide_eq_false (fun z => g2 z.1.2)] at h
        first | (walk_at "gx"; exact h) | exact h
    · rw [decide_eq_false (fun z => g z.1.1)] at h
      first | (walk_at "gx"; exact h) | exact h
  · have e : rightD (n + 1) nextD = true := rfl
    rw [e] at h
    walk_at "gx"
    refine c_parts hd' ?_
    walk_at "gx"
    refine rec' _ _ ?_
    rw [show (partsD nextD).all (rightD n) = true from rfl]
    walk_at "gx"
    exact h
  · walk_at "gx"
    refine iteP_d (fun g0 => ?_) (fun g0 => ?_)
    · have e : gs = [] := List.eq_nil_of_length_eq_zero (by omega)
      subst e
      have e : rightD (n + 1) (ofD f []) = false := Bool.and_false _
      rw [e] at h
      walk_at "gx"
      exact h
    cases gs with
    | nil => exact absurd rfl g0
    | cons g gs =>
    walk_at "gx"
    refine c_parts hd' ?_
    walk_at "gx"
    refine rec' _ _ ?_
    cases r : (partsD (ofD f (g :: gs))).all (rightD n) with
    | false =>
      rw [all_false r] at h
      walk_at "gx"
      exact h
    | true =>
      rw [all_true' r] at h
      have r1 := List.all_eq_true.mp r
      walk_at "gx"
      rw [loc_of] at h
      have ag := arp g (h2 g List.mem_cons_self) (r1 g (List.mem_cons_of_mem _ List.mem_cons_self))
      have af := arp f h1 (r1 f List.mem_cons_self)
      refine c_arity (v := ar g) (.inr (.inr (.inr (.inl ⟨f, g, gs, rfl, ag⟩)))) ?_
      walk_at "gx"
      refine c_arity (v := ar f) af.up1 ?_
      walk_at "gx"
      refine iteP_d (fun g1 => ?_) (fun g1 => ?_)
      · rw [decide_eq_true (show ar f = ((g :: gs).length : Nat) from g1)] at h
        walk_at "gx"
        refine gl_id rfl (fun x => decide (ar x = ar g)) (fun x hx R hR => ?_) ?_
        · walk_at "gx"
          refine c_arity (v := ar x) (arp x (h2 x hx) (r1 x (List.mem_cons_of_mem _ hx))).up1 ?_
          walk_at "gx"
          exact hR
        · walk_at "gx"
          exact h
      · rw [decide_eq_false (show ¬ ar f = ((g :: gs).length : Nat) from g1)] at h
        first | (walk_at "gx"; exact h) | exact h
  · walk_at "gx"
    refine c_parts hd' ?_
    walk_at "gx"
    refine rec' _ _ ?_
    cases r : (partsD (repD f g)).all (rightD n) with
    | false =>
      rw [all_false r] at h
      walk_at "gx"
      exact h
    | true =>
      rw [all_true' r] at h
      have r1 := List.all_eq_true.mp r
      walk_at "gx"
      rw [loc_rep] at h
      have ag := arp g h2 (r1 g (List.mem_cons_of_mem _ List.mem_cons_self))
      have af := arp f h1 (r1 f List.mem_cons_self)
      refine c_arity (v := ar f) af.up1 ?_
      walk_at "gx"
      refine iteP_d (fun g1 => ?_) (fun g1 => ?_)
      · rw [decide_eq_true (show ar f < 6 from g1)] at h
        walk_at "gx"
        refine c_arity (v := ar g) ag.up1 ?_
        walk_at "gx"
        refine c_arity (v := ar f) af.up1 ?_
        walk_at "gx"
        exact h
      · rw [decide_eq_false (show ¬ ar f < 6 from g1)] at h
        first | (walk_at "gx"; exact h) | exact h
  · walk_at "gx"
    refine c_parts hd' ?_
    walk_at "gx"
    refine rec' _ _ ?_
    cases r : (partsD (leastD f)).all (rightD n) with
    | false =>
      rw [all_false r] at h
      walk_at "gx"
      exact h
    | true =>
      rw [all_true' r] at h
      have r1 := List.all_eq_true.mp r
      walk_at "gx"
      rw [loc_least] at h
      have af := arp f h1 (r1 f List.mem_cons_self)
      refine c_arity (v := ar f) af.up1 ?_
      walk_at "gx"
      exact h

theorem c__law_fits_well {n : Nat} {d : D} {R : RMx} {XR : XM} (hn : n ≤ 17) (hd : Fd (n + 1) d) (h : R (.v (.bl (rightD (n + 1) d))) [.v d]) : m__law_fits_well (n + 1) [.v d] R XR := by
  unfold m__law_fits_well
  exact ⟨d, rfl, hn, hd, h⟩
theorem all_not {n : Nat} {d p : D} (h : p ∈ partsD d) (hp : rightD n p = false) : (partsD d).all (rightD n) = false := by
  cases r : (partsD d).all (rightD n) with
  | false => rfl
  | true =>
    rw [List.all_eq_true.mp r p h] at hp
    cases hp
theorem take_all {n : Nat} {d : D} (h : ∀ p ∈ (partsD d).take (partsD d).length, rightD n p = true) : (partsD d).all (rightD n) = true := by
  rw [List.take_length] at h
  exact List.all_eq_true.mpr h
theorem cnt0 {gs : List D} {q : D → Bool} : decide (((gs.filter fun x => !q x).length : Int) = 0) = gs.all q := by
  induction gs with
  | nil => rfl
  | cons g gs ih =>
    rw [List.all_cons]
    cases e : q g with
    | true =>
      rw [List.filter_cons_of_neg (by rw [e]; decide), ih]
      rfl
    | false =>
      rw [List.filter_cons_of_pos (by rw [e]; decide), List.length_cons]
      exact decide_eq_false (by omega)
theorem is__law_fits_well (n : Nat) : BodyIs mask__law_fits_well 3 (b__law_fits_well (m__law_fits_well n)) (m__law_fits_well (n + 1)) := by
  intro ms R XR _ h
  unfold m__law_fits_well at h
  obtain ⟨d, rfl, hn, hd, h⟩ := h
  show b__law_fits_well (m__law_fits_well n) (bodyE mask__law_fits_well R XR) [_, .gone, .gone]
  have hp := fd_parts hd
  have arp : ∀ p, Fd n p → rightD n p = true → Ar 17 p (ar p) := fun p h1 h2 => ar_ok h1 hn h2
  have hd' := hd
  rcases hd with ⟨a, rfl⟩ | ⟨a, i, rfl⟩ | rfl | ⟨f, gs, rfl, z, h1, h2⟩ | ⟨f, g, rfl, h1, h2⟩ | ⟨f, rfl, h1⟩
  · have e : rightD (n + 1) (zeroD a) = decide (0 ≤ a ∧ a ≤ 6) := rfl
    rw [e] at h
    walk_at "gx"
    refine iteP_d (fun g => ?_) (fun g => ?_)
    · walk_at "gx"
      rw [show decide (0 ≤ a ∧ a ≤ 6) = decide (a ≤ 6) from dec_iff ⟨fun z => z.2, fun z => ⟨g, z⟩⟩] at h
      exact h
    · rw [decide_eq_false (fun z => g z.1)] at h
      first | (walk_at "gx"; exact h) | exact h
  · have e : rightD (n + 1) (argD a i) = decide ((1 ≤ a ∧ a ≤ 6) ∧ 0 ≤ i ∧ i < a) := rfl
    rw [e] at h
    walk_at "gx"
    refine iteP_d (fun g => ?_) (fun g => ?_)
    · walk_at "gx"
      refine iteP_d (fun g2 => ?_) (fun g2 => ?_)
      · walk_at "gx"
        refine iteP_d (fun g3 => ?_) (fun g3 => ?_)
        · walk_at "gx"
          rw [show decide ((1 ≤ a ∧ a ≤ 6) ∧ 0 ≤ i ∧ i < a) = decide (i < a) from dec_iff ⟨fun z => z.2.2, fun z => ⟨⟨g, g2⟩, g3, z⟩⟩] at h
          exact h
        · rw [decide_eq_false (fun z => g3 z.2.1)] at h
          first | (walk_at "gx"; exact h) | exact h
      · rw [decide_eq_false (fun z => g2 z.1.2)] at h
        first | (walk_at "gx"; exact h) | exact h
    · rw [decide_eq_false (fun z => g z.1.1)] at h
      first | (walk_at "gx"; exact h) | exact h
  · have e : rightD (n + 1) nextD = true := rfl
    rw [e] at h
    walk_at "gx"
    exact h
  · walk_at "gx"
    refine c__law_pieces hd' ?_
    walk_at "gx"
    refine forL_by (fun i S => ∃ a2 : M, S = [.v (ofD f gs), .v (.str "of"), a2] ∧ ∀ p ∈ (partsD (ofD f gs)).take i, rightD n p = true) ?_ ?_ _ ⟨_, rfl, fun _ z => nomatch z⟩
    · rintro i p S Kx hi ⟨a2, rfl, hr⟩ hK
      have pm := List.mem_of_getElem? hi
      have hx := hp p pm
      cases n with
      | zero => exact hx.elim
      | succ n =>
        walk_at "gx"
        refine c__law_fits_well (by omega) hx ?_
        walk_at "gx"
        cases q : rightD (n + 1) p with
        | false =>
          rw [all_false (all_not pm q)] at h
          walk_at "gx"
          exact h
        | true =>
          walk_at "gx"
          refine hK _ ⟨_, rfl, fun y hy => ?_⟩
          rw [take_succ' hi] at hy
          rcases List.mem_append.mp hy with w | w
          · exact hr y w
          · rw [List.mem_singleton.mp w]
            exact q
    rintro S ⟨a2, rfl, hr⟩
    have r := take_all hr
    rw [all_true' r] at h
    have r1 := List.all_eq_true.mp r
    walk_at "gx"
    rw [loc_of] at h
    have af := arp f h1 (r1 f List.mem_cons_self)
    refine iteP_d (fun g0 => ?_) (fun g0 => ?_)
    · have e : gs = [] := List.eq_nil_of_length_eq_zero (by omega)
      subst e
      walk_at "gx"
      exact h
    cases gs with
    | nil => exact absurd rfl g0
    | cons g gs =>
    have ag := arp g (h2 g List.mem_cons_self) (r1 g (List.mem_cons_of_mem _ List.mem_cons_self))
    walk_at "gx"
    refine c__law_arity (v := ar f) af.up1 ?_
    walk_at "gx"
    refine iteP_d (fun g1 => ?_) (fun g1 => ?_)
    · rw [decide_eq_false (show ¬ ar f = ((g :: gs).length : Nat) from g1)] at h
      first | (walk_at "gx"; exact h) | exact h
    · have g1 : ar f = ((g :: gs).length : Nat) := Decidable.byContradiction g1
      rw [decide_eq_true g1] at h
      walk_at "gx"
      refine lcL_by (fun i acc S => acc = ((g :: gs).take i).filter (fun x => !decide (ar x = ar g)) ∧ S = [.v (ofD f (g :: gs)), .v (.str "of"), .gone]) ?_ ?_ _ _ ⟨rfl, rfl⟩
      · rintro i p acc S Kx hi ⟨rfl, rfl⟩ hK
        have pm := List.mem_of_getElem? hi
        walk_at "gx"
        refine c__law_arity (v := ar p) (arp p (h2 p pm) (r1 p (List.mem_cons_of_mem _ pm))).up1 ?_
        walk_at "gx"
        refine c__law_arity (v := ar g) ag.up1 ?_
        walk_at "gx"
        have k := hK _ _ ⟨rfl, rfl⟩
        rw [take_succ' hi, List.filter_append] at k
        refine iteP_d (fun g3 => ?_) (fun g3 => ?_)
        · have e : [p].filter (fun x => !decide (ar x = ar g)) = [p] := by
            rw [List.filter_cons_of_pos (by rw [decide_eq_false g3]; rfl)]
            rfl
          rw [e] at k
          walk_at "gx"
          refine ⟨?_, k⟩
          have l1 := List.length_filter_le (fun x => !decide (ar x = ar g)) ((g :: gs).take i)
          rw [List.length_take] at l1
          rw [sizeLine_eq]
          omega
        · have g3 : ar p = ar g := Decidable.byContradiction g3
          have e : [p].filter (fun x => !decide (ar x = ar g)) = [] := by
            rw [List.filter_cons_of_neg (by rw [decide_eq_true g3]; decide)]
            rfl
          rw [e, List.append_nil] at k
          exact k
      · rintro acc S ⟨rfl, rfl⟩
        rw [List.take_length]
        walk_at "gx"
        rw [cnt0]
        exact h
  · walk_at "gx"
    refine c__law_pieces hd' ?_
    walk_at "gx"
    refine forL_by (fun i S => ∃ a2 : M, S = [.v (repD f g), .v (.str "repeat"), a2] ∧ ∀ p ∈ (partsD (repD f g)).take i, rightD n p = true) ?_ ?_ _ ⟨_, rfl, fun _ z => nomatch z⟩
    · rintro i p S Kx hi ⟨a2, rfl, hr⟩ hK
      have pm := List.mem_of_getElem? hi
      have hx := hp p pm
      cases n with
      | zero => exact hx.elim
      | succ n =>
        walk_at "gx"
        refine c__law_fits_well (by omega) hx ?_
        walk_at "gx"
        cases q : rightD (n + 1) p with
        | false =>
          rw [all_false (all_not pm q)] at h
          walk_at "gx"
          exact h
        | true =>
          walk_at "gx"
          refine hK _ ⟨_, rfl, fun y hy => ?_⟩
          rw [take_succ' hi] at hy
          rcases List.mem_append.mp hy with w | w
          · exact hr y w
          · rw [List.mem_singleton.mp w]
            exact q
    rintro S ⟨a2, rfl, hr⟩
    have r := take_all hr
    rw [all_true' r] at h
    have r1 := List.all_eq_true.mp r
    walk_at "gx"
    rw [loc_rep] at h
    have ag := arp g h2 (r1 g (List.mem_cons_of_mem _ List.mem_cons_self))
    have af := arp f h1 (r1 f List.mem_cons_self)
    refine c__law_arity (v := ar f) af.up1 ?_
    walk_at "gx"
    refine iteP_d (fun g1 => ?_) (fun g1 => ?_)
    · rw [decide_eq_true (show ar f < 6 by omega)] at h
      walk_at "gx"
      refine c__law_arity (v := ar g) ag.up1 ?_
      walk_at "gx"
      refine c__law_arity (v := ar f) af.up1 ?_
      walk_at "gx"
      exact h
    · rw [decide_eq_false (show ¬ ar f < 6 by omega)] at h
      first | (walk_at "gx"; exact h) | exact h
  · walk_at "gx"
    refine c__law_pieces hd' ?_
    walk_at "gx"
    refine forL_by (fun i S => ∃ a2 : M, S = [.v (leastD f), .v (.str "least"), a2] ∧ ∀ p ∈ (partsD (leastD f)).take i, rightD n p = true) ?_ ?_ _ ⟨_, rfl, fun _ z => nomatch z⟩
    · rintro i p S Kx hi ⟨a2, rfl, hr⟩ hK
      have pm := List.mem_of_getElem? hi
      have hx := hp p pm
      cases n with
      | zero => exact hx.elim
      | succ n =>
        walk_at "gx"
        refine c__law_fits_well (by omega) hx ?_
        walk_at "gx"
        cases q : rightD (n + 1) p with
        | false =>
          rw [all_false (all_not pm q)] at h
          walk_at "gx"
          exact h
        | true =>
          walk_at "gx"
          refine hK _ ⟨_, rfl, fun y hy => ?_⟩
          rw [take_succ' hi] at hy
          rcases List.mem_append.mp hy with w | w
          · exact hr y w
          · rw [List.mem_singleton.mp w]
            exact q
    rintro S ⟨a2, rfl, hr⟩
    have r := take_all hr
    rw [all_true' r] at h
    have r1 := List.all_eq_true.mp r
    walk_at "gx"
    rw [loc_least] at h
    have af := arp f h1 (r1 f List.mem_cons_self)
    refine c__law_arity (v := ar f) af.up1 ?_
    walk_at "gx"
    exact h
theorem is_is_function : BodyIs mask_is_function 1 b_is_function m_is_function := by
  refine i_is_function fun d R XR hd h => ?_
  walk_at "gx"
  refine c_depth hd ?_
  walk_at "gx"
  refine iteP_d (fun g => ?_) (fun g => ?_)
  · walk_at "gx"
    refine c_count_parts hd ?_
    walk_at "gx"
    refine iteP_d (fun g2 => ?_) (fun g2 => ?_)
    · walk_at "gx"
      refine c_has_right_arities (Nat.le_refl _) hd ?_
      walk_at "gx"
      unfold isF at h
      rw [decide_eq_true g, decide_eq_true g2] at h
      exact h
    · unfold isF at h
      rw [decide_eq_true g, decide_eq_false g2] at h
      first | (walk_at "gx"; exact h) | exact h
  · unfold isF at h
    rw [decide_eq_false g] at h
    first | (walk_at "gx"; exact h) | exact h
theorem is__law_is_fun : BodyIs mask__law_is_fun 1 b__law_is_fun m__law_is_fun := by
  refine i__law_is_fun fun d R XR hd h => ?_
  walk_at "gx"
  refine c__law_deep hd ?_
  walk_at "gx"
  refine iteP_d (fun g => ?_) (fun g => ?_)
  · walk_at "gx"
    refine c__law_count hd ?_
    walk_at "gx"
    refine iteP_d (fun g2 => ?_) (fun g2 => ?_)
    · walk_at "gx"
      refine c__law_fits_well (Nat.le_refl _) hd ?_
      walk_at "gx"
      unfold isF at h
      rw [decide_eq_true g, decide_eq_true g2] at h
      exact h
    · unfold isF at h
      rw [decide_eq_true g, decide_eq_false g2] at h
      first | (walk_at "gx"; exact h) | exact h
  · unfold isF at h
    rw [decide_eq_false g] at h
    first | (walk_at "gx"; exact h) | exact h
theorem Fd.zero {n : Nat} {a : Int} : Fd (n + 1) (zeroD a) := .inl ⟨a, rfl⟩
theorem Fd.arg {n : Nat} {a i : Int} : Fd (n + 1) (argD a i) := .inr (.inl ⟨a, i, rfl⟩)
theorem Fd.next {n : Nat} : Fd (n + 1) nextD := .inr (.inr (.inl rfl))
theorem Fd.of {n : Nat} {f : D} {gs : List D} (z : gs.length ≤ 2) (h1 : Fd n f) (h2 : ∀ g ∈ gs, Fd n g) : Fd (n + 1) (ofD f gs) := .inr (.inr (.inr (.inl ⟨f, gs, rfl, z, h1, h2⟩)))
theorem Fd.rep {n : Nat} {f g : D} (h1 : Fd n f) (h2 : Fd n g) : Fd (n + 1) (repD f g) := .inr (.inr (.inr (.inr (.inl ⟨f, g, rfl, h1, h2⟩))))
theorem Fd.least {n : Nat} {f : D} (h1 : Fd n f) : Fd (n + 1) (leastD f) := .inr (.inr (.inr (.inr (.inr ⟨f, rfl, h1⟩))))
def bads1 : List D := [zeroD 7, zeroD (-1), argD 0 0, argD 2 2, argD 3 (-1), argD 7 0, ofD nextD [], ofD (argD 2 0) [nextD]]
def bads2 : List D := [ofD (argD 2 1) [nextD, zeroD 0], repD (zeroD 0) (zeroD 3), repD (zeroD 6) (zeroD 6), leastD (zeroD 0)]
def bads3 (d : D) : List D := [ofD (zeroD 0) [nextD], repD nextD nextD, ofD nextD [d, d]]
theorem bads_fd {d : D} (hd : Fd 6 d) : ∀ x ∈ bads1 ++ bads2 ++ bads3 d, Fd 7 x := by
  have one : ∀ {a b : D} {n : Nat}, Fd n a → b ∈ [a] → Fd n b := fun h z => by rw [List.mem_singleton.mp z]; exact h
  have two : ∀ {a b c : D} {n : Nat}, Fd n a → Fd n b → c ∈ [a, b] → Fd n c := fun h h2 z => by
    rcases List.mem_cons.mp z with rfl | z
    · exact h
    · exact one h2 z
  intro x hx
  have hx : x ∈ [zeroD 7, zeroD (-1), argD 0 0, argD 2 2, argD 3 (-1), argD 7 0, ofD nextD [], ofD (argD 2 0) [nextD], ofD (argD 2 1) [nextD, zeroD 0], repD (zeroD 0) (zeroD 3), repD (zeroD 6) (zeroD 6), leastD (zeroD 0), ofD (zeroD 0) [nextD], repD nextD nextD, ofD nextD [d, d]] := hx
  simp only [List.mem_cons, List.not_mem_nil, or_false] at hx
  rcases hx with rfl | rfl | rfl | rfl | rfl | rfl | rfl | rfl | rfl | rfl | rfl | rfl | rfl | rfl | rfl
  · exact .zero
  · exact .zero
  · exact .arg
  · exact .arg
  · exact .arg
  · exact .arg
  · exact .of (by decide) .next fun _ z => nomatch z
  · exact .of (by decide) .arg fun _ z => one .next z
  · exact .of (by decide) .arg fun _ z => two .next .zero z
  · exact .rep .zero .zero
  · exact .rep .zero .zero
  · exact .least .zero
  · exact .of (by decide) .zero fun _ z => one .next z
  · exact .rep .next .next
  · exact .of (Nat.le_refl 2) .next fun _ z => two hd hd z

theorem Td.fd : ∀ {n m : Nat} {d : D}, Td n m d → Fd n d
  | 0, _, _, h => h.elim
  | n + 1, m, d, h => by
    rcases h with ⟨rfl, _⟩ | ⟨i, rfl, _⟩ | ⟨rfl, _⟩ | ⟨f, gs, rfl, _, z, h1, h2⟩ | ⟨f, g, k, rfl, _, _, h1, h2⟩ | ⟨f, rfl, h1⟩
    · exact .inl ⟨_, rfl⟩
    · exact .inr (.inl ⟨_, _, rfl⟩)
    · exact .inr (.inr (.inl rfl))
    · exact .inr (.inr (.inr (.inl ⟨f, gs, rfl, z, h1.fd, fun g hg => (h2 g hg).fd⟩)))
    · exact .inr (.inr (.inr (.inr (.inl ⟨f, g, rfl, h1.fd, h2.fd⟩))))
    · exact .inr (.inr (.inr (.inr (.inr ⟨f, rfl, h1.fd⟩))))
theorem Td.up : ∀ {n k m : Nat} {d : D}, Td n m d → n ≤ k → Td k m d
  | 0, _, _, _, h, _ => h.elim
  | n + 1, 0, _, _, _, l => absurd l (Nat.not_succ_le_zero _)
  | n + 1, k + 1, m, d, h, l => by
    have l : n ≤ k := Nat.le_of_succ_le_succ l
    rcases h with h | h | h | ⟨f, gs, e, y, z, h1, h2⟩ | ⟨f, g, j, e, h0, h3, h1, h2⟩ | ⟨f, e, h1⟩
    · exact .inl h
    · exact .inr (.inl h)
    · exact .inr (.inr (.inl h))
    · exact .inr (.inr (.inr (.inl ⟨f, gs, e, y, z, h1.up l, fun g hg => (h2 g hg).up l⟩)))
    · exact .inr (.inr (.inr (.inr (.inl ⟨f, g, j, e, h0, h3, h1.up l, h2.up l⟩))))
    · exact .inr (.inr (.inr (.inr (.inr ⟨f, e, h1.up l⟩))))
theorem Td.arv : ∀ {n m : Nat} {d : D}, Td n m d → arD n d = m
  | 0, _, _, h => h.elim
  | n + 1, m, d, h => by
    rcases h with ⟨rfl, _⟩ | ⟨i, rfl, _⟩ | ⟨rfl, rfl⟩ | ⟨f, gs, rfl, y, z, h1, h2⟩ | ⟨f, g, k, rfl, rfl, _, h1, h2⟩ | ⟨f, rfl, h1⟩
    · rfl
    · rfl
    · rfl
    · cases gs with
      | nil => exact absurd y (Nat.lt_irrefl 0)
      | cons g gs => rw [ar_of]; exact (h2 g List.mem_cons_self).arv
    · rw [ar_rep, h1.arv]
      omega
    · rw [ar_least, h1.arv]
      omega
theorem Td.arr : ∀ {n m : Nat} {d : D}, Td n m d → Ar n d m
  | 0, _, _, h => h.elim
  | n + 1, m, d, h => by
    rcases h with ⟨rfl, _⟩ | ⟨i, rfl, _⟩ | ⟨rfl, rfl⟩ | ⟨f, gs, rfl, y, z, h1, h2⟩ | ⟨f, g, k, rfl, rfl, _, h1, h2⟩ | ⟨f, rfl, h1⟩
    · exact .inl rfl
    · exact .inr (.inl ⟨_, rfl⟩)
    · exact .inr (.inr (.inl ⟨rfl, rfl⟩))
    · cases gs with
      | nil => exact absurd y (Nat.lt_irrefl 0)
      | cons g gs => exact .inr (.inr (.inr (.inl ⟨f, g, gs, rfl, (h2 g List.mem_cons_self).arr⟩)))
    · exact .inr (.inr (.inr (.inr (.inl ⟨f, g, k, rfl, h1.arr, by omega⟩))))
    · exact .inr (.inr (.inr (.inr (.inr ⟨f, _, rfl, h1.arr, by omega⟩))))
theorem Td.right : ∀ {n m : Nat} {d : D}, n ≤ 18 → Td n m d → rightD n d = true
  | 0, _, _, _, h => h.elim
  | n + 1, m, d, l, h => by
    have ar17 : ∀ {k : Nat} {g : D}, Td n k g → ar g = k := fun q => (q.up (show n ≤ 17 by omega)).arv
    have rt : ∀ {k : Nat} {g : D}, Td n k g → rightD n g = true := fun q => q.right (by omega)
    rcases h with ⟨rfl, h0⟩ | ⟨i, rfl, h0, h3⟩ | ⟨rfl, rfl⟩ | ⟨f, gs, rfl, y, z, h1, h2⟩ | ⟨f, g, k, rfl, rfl, h3, h1, h2⟩ | ⟨f, rfl, h1⟩
    · rw [all_true' (show (partsD (zeroD m)).all (rightD n) = true from rfl), loc_zero]
      exact decide_eq_true ⟨by omega, by omega⟩
    · rw [all_true' (show (partsD (argD m i)).all (rightD n) = true from rfl), loc_arg]
      exact decide_eq_true ⟨⟨by omega, by omega⟩, by omega, by omega⟩
    · rfl
    · rw [all_true' (show (partsD (ofD f gs)).all (rightD n) = true by
        rw [pt_of, List.all_cons, rt h1, Bool.true_and, List.all_eq_true]
        exact fun g hg => rt (h2 g hg)), loc_of, ar17 h1, decide_eq_true rfl, decide_eq_true (show gs ≠ [] by rintro rfl; exact Nat.lt_irrefl 0 y), Bool.true_and, Bool.true_and, List.all_eq_true]
      intro g hg
      cases gs with
      | nil => cases hg
      | cons g0 gs =>
        rw [ar17 (h2 g hg), show (g0 :: gs).headD .non = g0 from rfl, ar17 (h2 g0 List.mem_cons_self)]
        exact decide_eq_true rfl
    · rw [all_true' (show (partsD (repD f g)).all (rightD n) = true by
        rw [pt_rep, List.all_cons, List.all_cons, rt h1, rt h2]
        rfl), loc_rep, ar17 h1, ar17 h2, decide_eq_true (show (k : Int) < 6 by omega), decide_eq_true (show ((k + 2 : Nat) : Int) = k + 2 by omega)]
      rfl
    · rw [all_true' (show (partsD (leastD f)).all (rightD n) = true by
        rw [pt_least, List.all_cons, rt h1]
        rfl), loc_least, ar17 h1]
      exact decide_eq_true (by omega)
theorem td_parts : ∀ {n m : Nat} {d : D}, Td (n + 1) m d → ∀ p ∈ partsD d, ∃ k, Td n k p := by
  intro n m d h
  rcases h with ⟨rfl, _⟩ | ⟨i, rfl, _⟩ | ⟨rfl, _⟩ | ⟨f, gs, rfl, _, z, h1, h2⟩ | ⟨f, g, k, rfl, _, _, h1, h2⟩ | ⟨f, rfl, h1⟩
  · exact fun _ z => nomatch z
  · exact fun _ z => nomatch z
  · exact fun _ z => nomatch z
  · rw [pt_of]
    intro p hp
    rcases List.mem_cons.mp hp with rfl | hp
    · exact ⟨_, h1⟩
    · exact ⟨_, h2 p hp⟩
  · rw [pt_rep]
    intro p hp
    rcases List.mem_cons.mp hp with rfl | hp
    · exact ⟨_, h1⟩
    · rw [List.mem_singleton.mp hp]
      exact ⟨_, h2⟩
  · rw [pt_least]
    intro p hp
    rw [List.mem_singleton.mp hp]
    exact ⟨_, h1⟩
theorem Td.deep : ∀ {n k m : Nat} {d : D}, Td n m d → n ≤ k → deepD k d ≤ n
  | 0, _, _, _, h, _ => h.elim
  | n + 1, 0, _, _, _, l => absurd l (Nat.not_succ_le_zero _)
  | n + 1, k + 1, m, d, h, l => by
    have q := fold_le (ns := (partsD d).map (deepD k)) (a := 0) (m := (n : Int)) (by omega) fun y hy => by
      obtain ⟨p, hp, rfl⟩ := List.mem_map.mp hy
      obtain ⟨j, hj⟩ := td_parts h p hp
      exact hj.deep (by omega)
    show 1 + ((partsD d).map (deepD k)).foldl max 0 ≤ ((n + 1 : Nat) : Int)
    omega
theorem sum_le3 {ns : List Int} {c : Int} (hc : 0 ≤ c) (hl : ns.length ≤ 3) (h : ∀ y ∈ ns, y ≤ c) : ns.sum ≤ 3 * c := by
  match ns, hl, h with
  | [], _, _ => show (0 : Int) ≤ 3 * c; omega
  | [a], _, h =>
    have := h a (by simp)
    rw [List.sum_cons, List.sum_nil]
    omega
  | [a, b], _, h =>
    have := h a (by simp)
    have := h b (by simp)
    rw [List.sum_cons, List.sum_cons, List.sum_nil]
    omega
  | [a, b, e], _, h =>
    have := h a (by simp)
    have := h b (by simp)
    have := h e (by simp)
    rw [List.sum_cons, List.sum_cons, List.sum_cons, List.sum_nil]
    omega
theorem cbN0 : ∀ n, 0 ≤ cbN n
  | 0 => Int.le_refl 0
  | n + 1 => by
    have := cbN0 n
    show 0 ≤ 1 + 3 * cbN n
    omega
theorem Td.count : ∀ {n k m : Nat} {d : D}, Td n m d → n ≤ k → countD k d ≤ cbN n
  | 0, _, _, _, h, _ => h.elim
  | n + 1, 0, _, _, _, l => absurd l (Nat.not_succ_le_zero _)
  | n + 1, k + 1, m, d, h, l => by
    have q := sum_le3 (ns := (partsD d).map (countD k)) (c := cbN n) (cbN0 n) (by rw [List.length_map]; exact parts_len (Td.fd h)) fun y hy => by
      obtain ⟨p, hp, rfl⟩ := List.mem_map.mp hy
      obtain ⟨j, hj⟩ := td_parts h p hp
      exact hj.count (by omega)
    show 1 + ((partsD d).map (countD k)).sum ≤ 1 + 3 * cbN n
    omega
theorem Td.fits {m : Nat} {d : D} (h : Td 4 m d) : isF d = true := by
  have h18 := h.up (show 4 ≤ 18 by decide)
  have a := h.deep (show 4 ≤ 18 by decide)
  have b := h.count (show 4 ≤ 18 by decide)
  have e : cbN 4 = 40 := by decide
  unfold isF
  rw [h18.right (Nat.le_refl _), decide_eq_true (show deepD 18 d ≤ 12 by omega), decide_eq_true (show countD 18 d ≤ 200 by omega)]
  rfl

theorem ap_zero {n : Nat} {a : Int} {xs : List Int} {b : Nat} : ap (n + 1) (zeroD a) xs (b + 1) = some (0, b) := rfl
theorem ap_next {n : Nat} {xs : List Int} {b : Nat} : ap (n + 1) nextD xs (b + 1) = xs.head?.bind fun x => some (x + 1, b) := rfl
theorem ap_arg {n : Nat} {a i : Int} {xs : List Int} {b : Nat} : ap (n + 1) (argD a i) xs (b + 1) = if 0 ≤ i then xs[i.toNat]?.bind fun x => some (x, b) else none := rfl
theorem ap_of {n : Nat} {f : D} {gs : List D} {xs : List Int} {b : Nat} : ap (n + 1) (ofD f gs) xs (b + 1) = (apL (ap n) gs xs b).bind fun r => ap n f r.1 r.2 := rfl
theorem ap_rep {n : Nat} {f g : D} {xs : List Int} {b : Nat} : ap (n + 1) (repD f g) xs (b + 1) = xs.head?.bind fun x => if 0 ≤ x then (ap n f xs.tail b).bind fun r => apR (ap n g) xs.tail x.toNat 0 r else none := rfl
theorem ap_least {n : Nat} {f : D} {xs : List Int} {b : Nat} : ap (n + 1) (leastD f) xs (b + 1) = apM (ap n f) xs (b + 1) 0 b := rfl
theorem bind_some' {α β : Type} {o : Option α} {f : α → Option β} {y : β} (h : o.bind f = some y) : ∃ x, o = some x ∧ f x = some y := Option.bind_eq_some_iff.mp h
theorem apL_le {f : D → List Int → Nat → Option (Int × Nat)} (hf : ∀ d xs l v l', f d xs l = some (v, l') → l' < l) : ∀ {gs : List D} {xs : List Int} {l : Nat} {q : List Int × Nat}, apL f gs xs l = some q → q.2 ≤ l
  | [], _, _, _, h => by cases h; exact Nat.le_refl _
  | g :: gs, xs, l, q, h => by
    obtain ⟨⟨rv, rl⟩, h1, h⟩ := bind_some' (show (f g xs l).bind _ = some q from h)
    obtain ⟨q2, h2, h⟩ := bind_some' h
    cases h
    have a := hf _ _ _ _ _ h1
    have b := apL_le hf h2
    show q2.2 ≤ l
    have b : q2.2 ≤ rl := b
    omega
theorem apR_le {f : List Int → Nat → Option (Int × Nat)} (hf : ∀ xs l v l', f xs l = some (v, l') → l' < l) {xs : List Int} : ∀ {c k : Nat} {r q : Int × Nat}, apR f xs c k r = some q → q.2 + c ≤ r.2
  | 0, _, _, _, h => by cases h; exact Nat.le_refl _
  | c + 1, k, r, q, h => by
    obtain ⟨⟨rv, rl⟩, h1, h⟩ := bind_some' (show (f ((k : Int) :: r.1 :: xs) r.2).bind _ = some q from h)
    have a := hf _ _ _ _ h1
    have b : q.2 + c ≤ rl := apR_le hf h
    omega
theorem apM_le {f : List Int → Nat → Option (Int × Nat)} (hf : ∀ xs l v l', f xs l = some (v, l') → l' < l) {xs : List Int} : ∀ {m k l : Nat} {q : Int × Nat}, apM f xs m k l = some q → q.2 ≤ l
  | 0, _, _, _, h => by cases h
  | m + 1, k, l, q, h => by
    obtain ⟨⟨rv, rl⟩, h1, h⟩ := bind_some' (show (f ((k : Int) :: xs) l).bind _ = some q from h)
    have a := hf _ _ _ _ h1
    split at h
    · cases h
      exact Nat.le_of_lt a
    · have b : q.2 ≤ rl := apM_le hf h
      omega
theorem ap_lt : ∀ {n : Nat} {d : D} {xs : List Int} {l : Nat} {v : Int} {l' : Nat}, ap n d xs l = some (v, l') → l' < l
  | 0, _, _, _, _, _, h => by cases h
  | _ + 1, _, _, 0, _, _, h => by cases h
  | n + 1, d, xs, l + 1, v, l', h => by
    have ih : ∀ d xs l v l', ap n d xs l = some (v, l') → l' < l := fun _ _ _ _ _ h => ap_lt h
    unfold ap at h
    split at h
    · cases h; exact Nat.lt_succ_self _
    split at h
    · obtain ⟨x, _, h⟩ := bind_some' h
      cases h; exact Nat.lt_succ_self _
    split at h
    · split at h
      · obtain ⟨x, _, h⟩ := bind_some' h
        cases h; exact Nat.lt_succ_self _
      · cases h
    split at h
    · obtain ⟨q, h1, h⟩ := bind_some' h
      have a := apL_le ih h1
      have b := ih _ _ _ _ _ h
      omega
    split at h
    · obtain ⟨x, _, h⟩ := bind_some' h
      split at h
      · obtain ⟨⟨rv, rl⟩, h1, h⟩ := bind_some' h
        have a := ih _ _ _ _ _ h1
        have b : l' + x.toNat ≤ rl := apR_le (fun _ _ _ _ h => ap_lt h) h
        omega
      · cases h
    · have b : l' ≤ l := apM_le (fun _ _ _ _ h => ap_lt h) h
      omega

theorem Sh.no {α : Type} : Sh (α := α) fun _ => none := fun _ _ _ h => nomatch h
theorem Sh.one {α : Type} (v : α) : Sh fun b => some (v, b) := fun b w l h => by
  cases h
  exact ⟨Nat.le_refl _, fun c => ⟨fun _ => by rw [Nat.add_sub_cancel], fun z => absurd z (by omega)⟩⟩
theorem Sh.bind {α β : Type} {f : Nat → Option (α × Nat)} {g : α → Nat → Option (β × Nat)} (hf : Sh f) (hg : ∀ v, Sh (g v)) : Sh fun b => (f b).bind fun r => g r.1 r.2 := fun b v l h => by
  obtain ⟨⟨v1, l1⟩, h1, h2⟩ := bind_some' h
  have h2 : g v1 l1 = some (v, l) := h2
  obtain ⟨p1, q1⟩ := hf _ _ _ h1
  obtain ⟨p2, q2⟩ := hg v1 _ _ _ h2
  refine ⟨by omega, fun c => ⟨fun z => ?_, fun z => ?_⟩⟩
  · show (f c).bind _ = _
    rw [(q1 c).1 (by omega)]
    show g v1 (c + l1 - b) = _
    rw [(q2 _).1 (by omega)]
    congr 2
    omega
  · show (f c).bind _ = _
    by_cases w : c + l1 < b
    · rw [(q1 c).2 w]
      rfl
    · rw [(q1 c).1 (by omega)]
      show g v1 (c + l1 - b) = _
      exact (q2 _).2 (by omega)
def stepB {α : Type} (f : Nat → Option α) : Nat → Option α
  | 0 => none
  | b + 1 => f b
theorem Sh.step {α : Type} {f : Nat → Option (α × Nat)} (hf : Sh f) : Sh (stepB f) := fun b v l h => by
  cases b with
  | zero => cases h
  | succ b =>
    obtain ⟨p, q⟩ := hf b v l h
    refine ⟨by omega, fun c => ?_⟩
    cases c with
    | zero => exact ⟨fun z => absurd z (by omega), fun _ => rfl⟩
    | succ c =>
      refine ⟨fun z => ?_, fun z => (q c).2 (by omega)⟩
      show f c = _
      rw [(q c).1 (by omega)]
      congr 2
      omega
theorem apL_sh {f : D → List Int → Nat → Option (Int × Nat)} (hf : ∀ d xs, Sh (f d xs)) : ∀ {gs : List D} {xs : List Int}, Sh (apL f gs xs)
  | [], _ => Sh.one []
  | g :: gs, xs => (hf g xs).bind (g := fun v l => (apL f gs xs l).bind fun q => some (v :: q.1, q.2)) fun v => (apL_sh hf).bind (g := fun q l => some (v :: q, l)) fun q => Sh.one _
theorem apR_sh {f : List Int → Nat → Option (Int × Nat)} (hf : ∀ xs, Sh (f xs)) {xs : List Int} : ∀ {c k : Nat} {v : Int}, Sh fun l => apR f xs c k (v, l)
  | 0, _, v => Sh.one v
  | c + 1, k, v => (hf ((k : Int) :: v :: xs)).bind (g := fun v l => apR f xs c (k + 1) (v, l)) fun _ => apR_sh hf
theorem apM_sh {f : List Int → Nat → Option (Int × Nat)} (hf : ∀ xs, Sh (f xs)) {xs : List Int} : ∀ {m k : Nat}, Sh fun l => apM f xs m k l
  | 0, _ => Sh.no
  | m + 1, k => (hf ((k : Int) :: xs)).bind (g := fun v l => if v = 0 then some ((k : Int), l) else apM f xs m (k + 1) l) fun v => by
    by_cases h : v = 0
    · simp only [if_pos h]
      exact Sh.one _
    · simp only [if_neg h]
      exact apM_sh hf
theorem apM_fuel {f : List Int → Nat → Option (Int × Nat)} (hf : ∀ xs l v l', f xs l = some (v, l') → l' < l) {xs : List Int} : ∀ {m k l : Nat} (e : Nat), l < m → apM f xs (m + e) k l = apM f xs m k l
  | 0, _, _, _, h => absurd h (Nat.not_lt_zero _)
  | m + 1, k, l, e, h => by
    rw [show m + 1 + e = (m + e) + 1 by omega]
    show (f ((k : Int) :: xs) l).bind _ = (f ((k : Int) :: xs) l).bind _
    cases q : f ((k : Int) :: xs) l with
    | none => rfl
    | some r =>
      have z := hf _ _ _ _ q
      show (if r.1 = 0 then _ else apM f xs (m + e) (k + 1) r.2) = (if r.1 = 0 then _ else apM f xs m (k + 1) r.2)
      rw [apM_fuel hf e (by omega)]
theorem apM_diag {f : List Int → Nat → Option (Int × Nat)} (hf : ∀ xs, Sh (f xs)) (hs : ∀ xs l v l', f xs l = some (v, l') → l' < l) {xs : List Int} : Sh fun l => apM f xs (l + 1) 0 l := by
  have e : ∀ n l, l ≤ n → apM f xs (l + 1) 0 l = apM f xs (n + 1) 0 l := fun n l h => by
    rw [show n + 1 = (l + 1) + (n - l) by omega]
    exact (apM_fuel hs _ (Nat.lt_succ_self _)).symm
  intro b v l h
  have h0 : apM f xs (b + 1) 0 b = some (v, l) := h
  refine ⟨(apM_sh hf (m := b + 1) (k := 0) (xs := xs) b v l h0).1, fun c => ?_⟩
  have h1 := h0
  rw [e (b + c) b (by omega)] at h1
  have q := (apM_sh hf (m := b + c + 1) (k := 0) (xs := xs) b v l h1).2 c
  show (_ → apM f xs (c + 1) 0 c = _) ∧ (_ → apM f xs (c + 1) 0 c = _)
  rw [e (b + c) c (by omega)]
  exact q
theorem ap_sh : ∀ {n : Nat} {d : D} {xs : List Int}, Sh (ap n d xs)
  | 0, _, _ => Sh.no
  | n + 1, d, xs => by
    have ih : ∀ d xs, Sh (ap n d xs) := fun _ _ => ap_sh
    have lt : ∀ d xs l v l', ap n d xs l = some (v, l') → l' < l := fun _ _ _ _ _ h => ap_lt h
    have e : ap (n + 1) d xs = stepB fun l => if kindD d = "zero" then some (0, l)
      else if kindD d = "next" then xs.head?.bind fun x => some (x + 1, l)
      else if kindD d = "arg" then (if 0 ≤ numD0 ((restD d).getD 1 .non) then xs[(numD0 ((restD d).getD 1 .non)).toNat]?.bind fun x => some (x, l) else none)
      else if kindD d = "of" then (apL (ap n) (innerD (restD d)) xs l).bind fun r => ap n ((restD d).headD .non) r.1 r.2
      else if kindD d = "repeat" then xs.head?.bind fun x => if 0 ≤ x then (ap n ((restD d).headD .non) xs.tail l).bind fun r => apR (ap n ((restD d).getD 1 .non)) xs.tail x.toNat 0 r else none
      else apM (ap n ((restD d).headD .non)) xs (l + 1) 0 l := by
      funext b
      cases b <;> rfl
    rw [e]
    refine Sh.step ?_
    have hb : ∀ {α : Type} (o : Option α) (g : α → Nat → Option (Int × Nat)), (∀ x, Sh (g x)) → Sh fun l => o.bind fun x => g x l := fun o g hg => by
      cases o with
      | none => exact Sh.no
      | some x => exact hg x
    by_cases c1 : kindD d = "zero"
    · simp only [if_pos c1]
      exact Sh.one _
    simp only [if_neg c1]
    by_cases c2 : kindD d = "next"
    · simp only [if_pos c2]
      exact hb xs.head? (fun x l => some (x + 1, l)) fun x => Sh.one _
    simp only [if_neg c2]
    by_cases c3 : kindD d = "arg"
    · simp only [if_pos c3]
      by_cases c4 : 0 ≤ numD0 ((restD d).getD 1 .non)
      · simp only [if_pos c4]
        exact hb _ (fun x l => some (x, l)) fun x => Sh.one _
      · simp only [if_neg c4]
        exact Sh.no
    simp only [if_neg c3]
    by_cases c4 : kindD d = "of"
    · simp only [if_pos c4]
      exact (apL_sh ih).bind (g := fun v l => ap n ((restD d).headD .non) v l) fun v => ih _ _
    simp only [if_neg c4]
    by_cases c5 : kindD d = "repeat"
    · simp only [if_pos c5]
      refine hb xs.head? (fun x l => if 0 ≤ x then (ap n ((restD d).headD .non) xs.tail l).bind fun r => apR (ap n ((restD d).getD 1 .non)) xs.tail x.toNat 0 r else none) fun x => ?_
      by_cases c6 : 0 ≤ x
      · simp only [if_pos c6]
        exact (ih _ _).bind (g := fun v l => apR (ap n ((restD d).getD 1 .non)) xs.tail x.toNat 0 (v, l)) fun v => apR_sh (ih _)
      · simp only [if_neg c6]
        exact Sh.no
    simp only [if_neg c5]
    exact apM_diag (ih _) (lt _)

theorem ap_rep1 {n : Nat} {f g : D} {x : Int} {xs : List Int} {b : Nat} (h : 0 ≤ x) : ap (n + 1) (repD f g) (x :: xs) (b + 1) = (ap n f xs b).bind fun r => apR (ap n g) xs x.toNat 0 r := by
  rw [ap_rep]
  show (if 0 ≤ x then _ else _) = _
  rw [if_pos h]
  rfl
theorem log_small {n : Int} (h0 : 0 ≤ n) (h1 : n ≤ 1000000) : n.natAbs.log2 < 1920 := by
  obtain ⟨m, rfl⟩ := Int.eq_ofNat_of_zero_le h0
  rw [Int.natAbs_natCast]
  by_cases e : m = 0
  · subst e
    decide
  · rw [Nat.log2_lt e]
    exact Nat.lt_of_le_of_lt (show m ≤ 1000000 by omega) (Nat.lt_of_lt_of_le (by decide : 1000000 < 2 ^ 20) (Nat.pow_le_pow_right (by decide) (by decide)))
theorem Vb.le {l l' : Nat} {x : Int} (h : Vb l x) (e : l' ≤ l) : Vb l' x := ⟨h.1, by have := h.2; omega⟩
theorem Vb.nat {l k : Nat} (h : k + l ≤ 3000000) : Vb l (k : Int) := ⟨by omega, by omega⟩
theorem apL_all {f : D → List Int → Nat → Option (Int × Nat)} {xs : List Int} (hs : ∀ d xs l v l', f d xs l = some (v, l') → l' < l) : ∀ {gs : List D} {l : Nat} {q : List Int × Nat}, (∀ x ∈ xs, Vb l x) → l ≤ 1000000 → (∀ g ∈ gs, ∀ l v l', (∀ x ∈ xs, Vb l x) → l ≤ 1000000 → f g xs l = some (v, l') → Vb l' v) → apL f gs xs l = some q → (∀ v ∈ q.1, Vb q.2 v) ∧ q.1.length = gs.length ∧ q.2 ≤ l
  | [], _, _, _, _, _, h => by cases h; exact ⟨fun _ z => (nomatch z), rfl, Nat.le_refl _⟩
  | g :: gs, l, q, hx, hl, hp, h => by
    obtain ⟨⟨rv, rl⟩, h1, h⟩ := bind_some' (show (f g xs l).bind _ = some q from h)
    obtain ⟨q2, h2, h⟩ := bind_some' h
    cases h
    have lt := hs _ _ _ _ _ h1
    obtain ⟨a, b, c⟩ := apL_all hs (fun x hxm => (hx x hxm).le (by omega)) (by omega) (fun g hg => hp g (List.mem_cons_of_mem _ hg)) h2
    have c : q2.2 ≤ rl := c
    refine ⟨fun v hv => ?_, by rw [List.length_cons, List.length_cons, b], by show q2.2 ≤ l; omega⟩
    rcases List.mem_cons.mp hv with rfl | hv
    · exact (hp g List.mem_cons_self _ _ _ hx hl h1).le c
    · exact a v hv
theorem apR_pos {f : List Int → Nat → Option (Int × Nat)} {xs : List Int} (hs : ∀ xs l v l', f xs l = some (v, l') → l' < l) (hf : ∀ (k : Nat) (r : Int) l v l', k + l ≤ 1000000 → Vb l r → (∀ x ∈ xs, Vb l x) → f ((k : Int) :: r :: xs) l = some (v, l') → Vb l' v) : ∀ {c k : Nat} {r q : Int × Nat}, k + r.2 ≤ 1000000 → Vb r.2 r.1 → (∀ x ∈ xs, Vb r.2 x) → apR f xs c k r = some q → Vb q.2 q.1
  | 0, _, _, _, _, h0, _, h => by cases h; exact h0
  | c + 1, k, r, q, hk, h0, hx, h => by
    obtain ⟨⟨rv, rl⟩, h1, h⟩ := bind_some' (show (f ((k : Int) :: r.1 :: xs) r.2).bind _ = some q from h)
    have lt := hs _ _ _ _ h1
    exact apR_pos hs hf (by show k + 1 + rl ≤ _; omega) (hf _ _ _ _ _ hk h0 hx h1) (fun x hxm => (hx x hxm).le (by show rl ≤ _; omega)) h
theorem apM_pos {f : List Int → Nat → Option (Int × Nat)} {xs : List Int} (hs : ∀ xs l v l', f xs l = some (v, l') → l' < l) : ∀ {m k l : Nat} {q : Int × Nat}, k + l ≤ 3000000 → apM f xs m k l = some q → Vb q.2 q.1
  | 0, _, _, _, _, h => nomatch h
  | m + 1, k, l, q, hk, h => by
    obtain ⟨⟨rv, rl⟩, h1, h⟩ := bind_some' (show (f ((k : Int) :: xs) l).bind _ = some q from h)
    have lt := hs _ _ _ _ h1
    split at h
    · cases h
      exact Vb.nat (by show k + rl ≤ _; omega)
    · exact apM_pos hs (by show k + 1 + rl ≤ _; omega) h
theorem ap_pos : ∀ {n : Nat} {d : D} {xs : List Int} {l : Nat} {v : Int} {l' : Nat}, Td n xs.length d → (∀ x ∈ xs, Vb l x) → l ≤ 1000000 → ap n d xs l = some (v, l') → Vb l' v
  | 0, _, _, _, _, _, h, _, _, _ => h.elim
  | _ + 1, _, _, 0, _, _, _, _, _, h => nomatch h
  | n + 1, d, xs, l + 1, v, l', hd, hx, hl, h => by
    have hs : ∀ d xs l v l', ap n d xs l = some (v, l') → l' < l := fun _ _ _ _ _ e => ap_lt e
    have hx' : ∀ x ∈ xs, Vb l x := fun x hxm => (hx x hxm).le (Nat.le_succ l)
    rcases hd with ⟨rfl, _⟩ | ⟨i, rfl, _⟩ | ⟨rfl, _⟩ | ⟨f, gs, rfl, y, z, h1, h2⟩ | ⟨f, g, k, rfl, e, _, h1, h2⟩ | ⟨f, rfl, h1⟩
    · rw [ap_zero] at h
      cases h
      exact ⟨Int.le_refl _, by omega⟩
    · rw [ap_arg] at h
      split at h
      · obtain ⟨x, hxm, h⟩ := bind_some' h
        cases h
        exact hx' _ (List.mem_of_getElem? hxm)
      · cases h
    · rw [ap_next] at h
      obtain ⟨x, hxm, h⟩ := bind_some' h
      cases h
      obtain ⟨a, b⟩ := hx x (List.mem_of_head? hxm)
      exact ⟨by omega, by omega⟩
    · rw [ap_of] at h
      obtain ⟨q, q1, q2⟩ := bind_some' h
      obtain ⟨a, b, c⟩ := apL_all hs hx' (by omega) (fun g hg l v l' a b e => ap_pos (h2 g hg) a b e) q1
      exact ap_pos (by rw [b]; exact h1) a (by omega) q2
    · cases xs with
      | nil => cases e
      | cons x xs =>
        have x0 := (hx x List.mem_cons_self).1
        have hx1 : ∀ y ∈ xs, Vb l y := fun y hy => hx' y (List.mem_cons_of_mem _ hy)
        rw [List.length_cons] at e
        obtain rfl : xs.length = k := by omega
        rw [ap_rep1 x0] at h
        obtain ⟨⟨rv, rl⟩, q1, q2⟩ := bind_some' h
        have lt := ap_lt q1
        refine apR_pos (q := (v, l')) (hs g) (fun k r l v l' hk r0 hy0 e => ap_pos (xs := (k : Int) :: r :: xs) h2 (fun y hy => ?_) (by omega) e) (by show 0 + rl ≤ _; omega) (ap_pos h1 hx1 (by omega) q1) (fun y hy => (hx1 y hy).le (by show rl ≤ _; omega)) q2
        rcases List.mem_cons.mp hy with rfl | hy
        · exact Vb.nat (by omega)
        rcases List.mem_cons.mp hy with rfl | hy
        · exact r0
        · exact hy0 y hy
    · rw [ap_least] at h
      exact apM_pos (q := (v, l')) (hs f) (by omega) h
theorem is_Evaluation___init__ (ca : CA) : BodyIs mask_Evaluation___init__ 2 (b_Evaluation___init__ ca) (m_Evaluation___init__ ca) := by
  refine i_Evaluation___init__ fun n R XR h => ?_
  walk_at "gx"
  exact h
theorem c_Evaluation_apply {ca : CA} {n : Nat} {d : D} {xs : List Int} {lim : Int} {b : Nat} {R : RMx} {XR : XM} (hd : Td (n + 1) xs.length d) (hx : ∀ x ∈ xs, Vb b x) (hl : xs.length + n ≤ 1000 ∧ n ≤ 900 ∧ b ≤ 1000000 ∧ 0 ≤ lim ∧ lim ≤ 1000000)
    (h1 : ∀ v l, ap (n + 1) d xs b = some (v, l) → R (.v (.int v)) [evO ca lim (lim - l), .v d, .v (.tup (xs.map D.int))])
    (h2 : ap (n + 1) d xs b = none → XR (.ref ca.c_TooLong, some [("limit", .int lim)]) [evO ca lim (lim + 1), .v d, .v (.tup (xs.map D.int))]) :
    m_Evaluation_apply ca (n + 1) [evO ca lim (lim - b), .v d, .v (.tup (xs.map D.int))] R XR := by
  unfold m_Evaluation_apply
  refine ⟨d, xs, lim, b, rfl, hd, hx, hl, ?_⟩
  cases e : ap (n + 1) d xs b with
  | none => exact h2 e
  | some r => exact h1 r.1 r.2 e
theorem is_Evaluation_apply (ca : CA) (n : Nat) : BodyIs mask_Evaluation_apply 7 (b_Evaluation_apply ca (m_Evaluation_apply ca n)) (m_Evaluation_apply ca (n + 1)) := by
  intro ms R XR _ h
  unfold m_Evaluation_apply at h
  obtain ⟨d, xs, lim, b, rfl, hd, hx, hl, h⟩ := h
  show b_Evaluation_apply ca (m_Evaluation_apply ca n) (bodyE mask_Evaluation_apply R XR) [_, _, _, .gone, .gone, .gone, .gone]
  cases b with
  | zero =>
    have h : XR (.ref ca.c_TooLong, some [("limit", .int lim)]) [evO ca lim (lim + 1), .v d, .v (.tup (xs.map D.int))] := h
    have e0 : lim - ((0 : Nat) : Int) + 1 = lim + 1 := by omega
    walk_at "gs"
    rw [e0]
    walk_at "gs"
    refine Piece.mk ?_
    walk_at "gx"
    exact ⟨log_small (by omega) (by omega), h⟩
  | succ b =>
  have e0 : lim - ((b + 1 : Nat) : Int) + 1 = lim - b := by omega
  walk_at "gs"
  rw [e0]
  walk_at "gs"
  refine Piece.mk ?_
  walk_at "gs"
  refine Piece.mk ?_
  have dpos : ∀ {k : Nat} {g : D}, Td n k g → ∃ m, n = m + 1 := fun {k g} hg => by
    cases n with
    | zero => exact hg.elim
    | succ m => exact ⟨m, rfl⟩
  obtain ⟨hl, hn, hb, l0, l1⟩ := hl
  have hx' : ∀ x ∈ xs, Vb b x := fun x hxm => (hx x hxm).le (Nat.le_succ b)
  rcases hd with ⟨rfl, m6⟩ | ⟨i, rfl, im, m6⟩ | ⟨rfl, m1⟩ | ⟨f, gs, rfl, y, z, h1, h2⟩ | ⟨f, g, k, rfl, e, k6, h1, h2⟩ | ⟨f, rfl, h1⟩
  · rw [ap_zero] at h
    walk_at "gx"
    exact h
  · rw [ap_arg, if_pos (Int.natCast_nonneg i), Int.toNat_natCast, List.getElem?_eq_getElem im] at h
    walk_at "gx"
    refine ix_of (f := D.int) (xs := xs) rfl (Int.natCast_nonneg i) (by omega) fun y hy => ?_
    rw [Int.toNat_natCast, List.getElem?_eq_getElem im] at hy
    cases hy
    walk_at "gx"
    exact h
  · match xs, m1 with
    | [x], _ =>
      rw [ap_next] at h
      walk_at "gx"
      exact h
  · rw [ap_of] at h
    obtain ⟨m, rfl⟩ := dpos h1
    walk_at "gx"
    refine lcLX_by (fun i acc S => ∃ (ws : List Int) (l' : Nat), evK ca lim (ofD f gs) xs R XR ((apL (ap (m + 1)) (gs.drop i) xs l').bind fun q => ap (m + 1) f (ws ++ q.1) q.2) ∧ (∀ w ∈ ws, Vb l' w) ∧ ws.length = i ∧ l' ≤ b ∧ acc = ws.map D.int ∧ S = [evO ca lim (lim - l'), .v (ofD f gs), .v (.tup (xs.map D.int)), .v (.str "of"), .gone, .gone, .gone]) ?_ ?_ _ _ ⟨[], b, h, (fun _ q => nomatch q), rfl, by omega, rfl, rfl⟩
    · rintro i g acc S Kx hi ⟨ws, l', hq, hw, e3, hb2, rfl, rfl⟩ hK
      obtain ⟨hil, hie⟩ := List.getElem?_eq_some_iff.mp hi
      rw [List.drop_eq_getElem_cons hil, hie] at hq
      have hg := h2 g (List.mem_of_getElem? hi)
      have hxl : ∀ x ∈ xs, Vb l' x := fun x hxm => (hx' x hxm).le hb2
      walk_at "gx"
      refine ⟨⟨rfl, by decide⟩, ?_⟩
      walk_at "gx"
      refine c_Evaluation_apply hg hxl ⟨by omega, by omega, by omega, l0, l1⟩ (fun rv rl hr => ?_) fun hr => ?_
      · have hrl := ap_lt hr
        walk_at "gx"
        have k := hK (ws.map D.int ++ [.int rv]) _ ⟨ws ++ [rv], rl, ?_, fun w hwm => ?_, by rw [List.length_append, e3]; rfl, by omega, by rw [List.map_append]; rfl, rfl⟩
        · first | exact k | exact ⟨by rw [List.length_map, sizeLine_eq]; omega, k⟩
        · have e : apL (ap (m + 1)) (g :: gs.drop (i + 1)) xs l' = (apL (ap (m + 1)) (gs.drop (i + 1)) xs rl).bind fun q => some (rv :: q.1, q.2) := by
            show (ap (m + 1) g xs l').bind _ = _
            rw [hr]
            rfl
          rw [e] at hq
          cases q : apL (ap (m + 1)) (gs.drop (i + 1)) xs rl with
          | none => rw [q] at hq; exact hq
          | some p =>
            rw [q] at hq
            have hq : evK ca lim (ofD f gs) xs R XR (ap (m + 1) f (ws ++ (rv :: p.1)) p.2) := hq
            show evK ca lim (ofD f gs) xs R XR (ap (m + 1) f (ws ++ [rv] ++ p.1) p.2)
            rw [List.append_assoc]
            exact hq
        · rcases List.mem_append.mp hwm with q | q
          · exact (hw w q).le (by omega)
          · rw [List.mem_singleton.mp q]
            exact ap_pos hg hxl (by omega) hr
      · have e : apL (ap (m + 1)) (g :: gs.drop (i + 1)) xs l' = none := by
          show (ap (m + 1) g xs l').bind _ = _
          rw [hr]
          rfl
        rw [e] at hq
        walk_at "gx"
        exact hq
    · rintro acc S ⟨ws, l', hq, hw, e3, hb2, rfl, rfl⟩
      rw [List.drop_length] at hq
      have hq : evK ca lim (ofD f gs) xs R XR (ap (m + 1) f (ws ++ []) l') := hq
      rw [List.append_nil] at hq
      have e3 : ws.length = gs.length := e3
      walk_at "gx"
      refine ⟨⟨rfl, by decide⟩, ?_⟩
      walk_at "gx"
      refine c_Evaluation_apply (by rw [e3]; exact h1) hw ⟨by omega, by omega, by omega, l0, l1⟩ (fun rv rl hr => ?_) fun hr => ?_
      · rw [hr] at hq
        walk_at "gx"
        exact hq
      · rw [hr] at hq
        walk_at "gx"
        exact hq
  · cases xs with
    | nil => cases e
    | cons x xs =>
    obtain ⟨x0, x1⟩ := hx x List.mem_cons_self
    have hx1 : ∀ y ∈ xs, Vb b y := fun y hy => hx' y (List.mem_cons_of_mem _ hy)
    rw [List.length_cons] at e hl
    obtain rfl : xs.length = k := by omega
    obtain ⟨m, rfl⟩ := dpos h1
    rw [ap_rep1 x0] at h
    walk_at "gx"
    refine ⟨⟨rfl, by decide⟩, ?_⟩
    walk_at "gx"
    have cd : cut ((x :: xs).map D.int) (some 1) none = xs.map D.int := cut_drop1 _
    refine ⟨⟨rfl, by decide⟩, ?_⟩
    walk_at "gx"
    rw [cd]
    refine c_Evaluation_apply h1 hx1 ⟨by omega, by omega, by omega, l0, l1⟩ (fun rv rl hr => ?_) fun hr => ?_
    rotate_left
    · rw [hr] at h
      walk_at "gx"
      exact h
    rw [hr] at h
    have hrl := ap_lt hr
    have rp := ap_pos h1 hx1 (by omega) hr
    walk_at "gx"
    refine forL_by (fun i S => ∃ (r : Int × Nat) (a5 : M), S = [evO ca lim (lim - r.2), .v (repD f g), .v (.int x), .v (.tup (xs.map D.int)), .v (.int r.1), a5] ∧ evK ca lim (repD f g) (x :: xs) R XR (apR (ap (m + 1) g) xs (x.toNat - i) i r) ∧ Vb r.2 r.1 ∧ i + r.2 ≤ b) ?_ ?_ _ ⟨(rv, rl), _, rfl, h, rp, by show 0 + rl ≤ b; omega⟩
    · rintro i d S Kx hi ⟨r, a5, rfl, hR, r0, hrb⟩ hK
      obtain ⟨hi1, rfl⟩ := rngD_get hi
      have hi1 : i < x.toNat := by omega
      rw [show x.toNat - i = (x.toNat - (i + 1)) + 1 by omega] at hR
      have hx2 : ∀ y ∈ ((i : Int) :: r.1 :: xs), Vb r.2 y := fun y hy => by
        rcases List.mem_cons.mp hy with rfl | hy
        · exact Vb.nat (by omega)
        rcases List.mem_cons.mp hy with rfl | hy
        · exact r0
        · exact (hx1 y hy).le (by omega)
      rw [show (0 : Int) + (i : Int) * 1 = i by omega]
      walk_at "gx"
      refine ⟨⟨rfl, by decide⟩, ?_⟩
      walk_at "gx"
      refine ⟨by rw [List.length_map, sizeLine_eq]; show 2 + _ ≤ _; omega, ?_⟩
      walk_at "gx"
      refine c_Evaluation_apply (xs := (i : Int) :: r.1 :: xs) h2 hx2 ⟨by rw [List.length_cons, List.length_cons]; omega, by omega, by omega, l0, l1⟩ (fun qv ql hq => ?_) fun hq => ?_
      · have hql := ap_lt hq
        have hR : evK ca lim (repD f g) (x :: xs) R XR ((ap (m + 1) g ((i : Int) :: r.1 :: xs) r.2).bind fun q => apR (ap (m + 1) g) xs (x.toNat - (i + 1)) (i + 1) q) := hR
        rw [hq] at hR
        walk_at "gx"
        exact hK _ ⟨(qv, ql), _, rfl, hR, ap_pos (xs := (i : Int) :: r.1 :: xs) h2 hx2 (by omega) hq, by show i + 1 + ql ≤ b; omega⟩
      · have hR : evK ca lim (repD f g) (x :: xs) R XR ((ap (m + 1) g ((i : Int) :: r.1 :: xs) r.2).bind fun q => apR (ap (m + 1) g) xs (x.toNat - (i + 1)) (i + 1) q) := hR
        rw [hq] at hR
        walk_at "gx"
        exact hR
    · rintro S ⟨r, a5, rfl, hR, r0, hrb⟩
      rw [rngD_len] at hR
      have e : x.toNat - x.toNat = 0 := Nat.sub_self _
      first | rw [e] at hR | (rw [show x.toNat - (x - 0).toNat = 0 by omega] at hR)
      walk_at "gx"
      exact hR
  · rw [ap_least] at h
    obtain ⟨m, rfl⟩ := dpos h1
    walk_at "gx"
    refine wh_of (fun S => ∃ (k j l' : Nat), S = [evO ca lim (lim - l'), .v (leastD f), .v (.tup (xs.map D.int)), .v (.str "least"), .gone, .v (.int k), .gone] ∧ evK ca lim (leastD f) xs R XR (apM (ap (m + 1) f) xs j k l') ∧ l' < j ∧ j + k = b + 1 ∧ l' ≤ 1000000) (fun S => match S with | [_, _, _, _, _, .v (.int k), _] => b + 1 - k.toNat | _ => 0) ⟨0, b + 1, b, rfl, h, Nat.lt_succ_self _, rfl, by omega⟩ ?_
    rintro S ⟨k, j, l', rfl, hM, hlj, hj, hb2⟩ nn ih
    cases j with
    | zero => omega
    | succ j =>
    have hM : evK ca lim (leastD f) xs R XR ((ap (m + 1) f ((k : Int) :: xs) l').bind fun q => if q.1 = 0 then some ((k : Int), q.2) else apM (ap (m + 1) f) xs j (k + 1) q.2) := hM
    have hx2 : ∀ y ∈ ((k : Int) :: xs), Vb l' y := fun y hy => by
      rcases List.mem_cons.mp hy with rfl | hy
      · exact Vb.nat (by omega)
      · exact (hx' y hy).le (by omega)
    walk_at "gx"
    refine ⟨⟨rfl, by decide⟩, ?_⟩
    walk_at "gx"
    refine ⟨by rw [List.length_map, sizeLine_eq]; show 1 + _ ≤ _; omega, ?_⟩
    walk_at "gx"
    refine c_Evaluation_apply (xs := (k : Int) :: xs) h1 hx2 ⟨by rw [List.length_cons]; omega, by omega, by omega, l0, l1⟩ (fun rv rl hr => ?_) fun hr => ?_
    rotate_left
    · rw [hr] at hM
      walk_at "gx"
      exact hM
    rw [hr] at hM
    have hM : evK ca lim (leastD f) xs R XR (if rv = 0 then some ((k : Int), rl) else apM (ap (m + 1) f) xs j (k + 1) rl) := hM
    have hrl := ap_lt hr
    walk_at "gx"
    refine iteP_d (fun g0 => ?_) (fun g0 => ?_)
    · rw [if_neg g0] at hM
      walk_at "gx"
      refine ih _ ⟨k + 1, j, rl, rfl, hM, by omega, by omega, by omega⟩ ?_
      show b + 1 - ((k + 1 : Nat) : Int).toNat < b + 1 - (k : Int).toNat
      omega
    · have g0 : rv = 0 := Decidable.byContradiction g0
      rw [if_pos g0] at hM
      walk_at "gx"
      exact hM

theorem c__law_apply {n : Nat} {d : D} {xs : List Int} {b : Nat} {R : RMx} {XR : XM} (hd : Td (n + 1) xs.length d) (hx : ∀ x ∈ xs, Vb b x) (hl : xs.length + n ≤ 1000 ∧ n ≤ 900 ∧ b ≤ 1000000) (h : ∀ x, R (apO (ap (n + 1) d xs b)) [.v d, .v (.tup (xs.map D.int)), x]) :
    m__law_apply (n + 1) [.v d, .v (.tup (xs.map D.int)), .v (.int b)] R XR := by
  unfold m__law_apply
  refine ⟨d, xs, b, rfl, hd, hx, hl, ?_⟩
  cases e : ap (n + 1) d xs b with
  | none => rw [e] at h; exact h
  | some r => rw [e] at h; exact h
theorem is__law_apply (n : Nat) : BodyIs mask__law_apply 8 (b__law_apply (m__law_apply n)) (m__law_apply (n + 1)) := by
  intro ms R XR _ h
  unfold m__law_apply at h
  obtain ⟨d, xs, b, rfl, hd, hx, hl, h⟩ := h
  show b__law_apply (m__law_apply n) (bodyE mask__law_apply R XR) [_, _, _, .gone, .gone, .gone, .gone, .gone]
  have dpos : ∀ {k : Nat} {g : D}, Td n k g → ∃ m, n = m + 1 := fun {k g} hg => by
    cases n with
    | zero => exact hg.elim
    | succ m => exact ⟨m, rfl⟩
  cases b with
  | zero =>
    have h : ∀ x, R (.v .non) [.v d, .v (.tup (xs.map D.int)), x] := h
    walk_at "gx"
    exact h _
  | succ b =>
  have e0 : ((b + 1 : Nat) : Int) - 1 = b := by omega
  walk_at "gs"
  refine Piece.mk ?_
  walk_at "gs"
  rw [e0]
  refine Piece.mk ?_
  obtain ⟨hl, hn, hb⟩ := hl
  have hx' : ∀ x ∈ xs, Vb b x := fun x hxm => (hx x hxm).le (Nat.le_succ b)
  rcases hd with ⟨rfl, m6⟩ | ⟨i, rfl, im, m6⟩ | ⟨rfl, m1⟩ | ⟨f, gs, rfl, y, z, h1, h2⟩ | ⟨f, g, k, rfl, e, k6, h1, h2⟩ | ⟨f, rfl, h1⟩
  · rw [ap_zero] at h
    walk_at "gx"
    exact h _
  · rw [ap_arg, if_pos (Int.natCast_nonneg i), Int.toNat_natCast, List.getElem?_eq_getElem im] at h
    walk_at "gx"
    refine ix_of (f := D.int) (xs := xs) rfl (Int.natCast_nonneg i) (by omega) fun y hy => ?_
    rw [Int.toNat_natCast, List.getElem?_eq_getElem im] at hy
    cases hy
    walk_at "gx"
    exact h _
  · match xs, m1 with
    | [x], _ =>
      rw [ap_next] at h
      walk_at "gx"
      exact h _
  · rw [ap_of] at h
    obtain ⟨m, rfl⟩ := dpos h1
    walk_at "gx"
    refine forL_by (fun i S => ∃ (ws : List Int) (l' : Nat) (a5 a6 a7 : M), lpK (ofD f gs) xs R ((apL (ap (m + 1)) (gs.drop i) xs l').bind fun q => ap (m + 1) f (ws ++ q.1) q.2) ∧ (∀ w ∈ ws, Vb l' w) ∧ ws.length = i ∧ l' ≤ b ∧ S = [.v (ofD f gs), .v (.tup (xs.map D.int)), .v (.int l'), .v (.str "of"), .ml (ws.map D.int), a5, a6, a7]) ?_ ?_ _ ⟨[], b, _, _, _, h, (fun _ q => nomatch q), rfl, by omega, rfl⟩
    · rintro i g S Kx hi ⟨ws, l', a5, a6, a7, hq, hw, e3, hb2, rfl⟩ hK
      obtain ⟨hil, hie⟩ := List.getElem?_eq_some_iff.mp hi
      rw [List.drop_eq_getElem_cons hil, hie] at hq
      have hg := h2 g (List.mem_of_getElem? hi)
      have hxl : ∀ x ∈ xs, Vb l' x := fun x hxm => (hx' x hxm).le hb2
      walk_at "gx"
      refine c__law_apply hg hxl ⟨by omega, by omega, by omega⟩ fun _ => ?_
      cases hr : ap (m + 1) g xs l' with
      | none =>
        have e : apL (ap (m + 1)) (g :: gs.drop (i + 1)) xs l' = none := by
          show (ap (m + 1) g xs l').bind _ = _
          rw [hr]
          rfl
        rw [e] at hq
        walk_at "gx"
        exact hq _
      | some r =>
        obtain ⟨rv, rl⟩ := r
        have hrl := ap_lt hr
        walk_at "gx"
        refine hK _ ⟨ws ++ [rv], rl, _, _, _, ?_, fun w hwm => ?_, by rw [List.length_append, e3]; rfl, by omega, by rw [List.map_append]; rfl⟩
        · have e : apL (ap (m + 1)) (g :: gs.drop (i + 1)) xs l' = (apL (ap (m + 1)) (gs.drop (i + 1)) xs rl).bind fun q => some (rv :: q.1, q.2) := by
            show (ap (m + 1) g xs l').bind _ = _
            rw [hr]
            rfl
          rw [e] at hq
          cases q : apL (ap (m + 1)) (gs.drop (i + 1)) xs rl with
          | none => rw [q] at hq; exact hq
          | some p =>
            rw [q] at hq
            have hq : lpK (ofD f gs) xs R (ap (m + 1) f (ws ++ (rv :: p.1)) p.2) := hq
            show lpK (ofD f gs) xs R (ap (m + 1) f (ws ++ [rv] ++ p.1) p.2)
            rw [List.append_assoc]
            exact hq
        · rcases List.mem_append.mp hwm with q | q
          · exact (hw w q).le (by omega)
          · rw [List.mem_singleton.mp q]
            exact ap_pos hg hxl (by omega) hr
    · rintro S ⟨ws, l', a5, a6, a7, hq, hw, e3, hb2, rfl⟩
      rw [List.drop_length] at hq
      have hq : lpK (ofD f gs) xs R (ap (m + 1) f (ws ++ []) l') := hq
      rw [List.append_nil] at hq
      have e3 : ws.length = gs.length := e3
      walk_at "gx"
      refine c__law_apply (by rw [e3]; exact h1) hw ⟨by omega, by omega, by omega⟩ fun _ => ?_
      cases hr : ap (m + 1) f ws l' with
      | none =>
        rw [hr] at hq
        walk_at "gx"
        exact hq _
      | some r =>
        rw [hr] at hq
        walk_at "gx"
        exact hq _
  · cases xs with
    | nil => cases e
    | cons x xs =>
    obtain ⟨x0, x1⟩ := hx x List.mem_cons_self
    have hx1 : ∀ y ∈ xs, Vb b y := fun y hy => hx' y (List.mem_cons_of_mem _ hy)
    rw [List.length_cons] at e hl
    obtain rfl : xs.length = k := by omega
    obtain ⟨m, rfl⟩ := dpos h1
    rw [ap_rep1 x0] at h
    walk_at "gx"
    have cd : cut ((x :: xs).map D.int) (some 1) none = xs.map D.int := cut_drop1 _
    rw [cd]
    refine c__law_apply h1 hx1 ⟨by omega, by omega, by omega⟩ fun _ => ?_
    have rp := fun v l => ap_pos (v := v) (l' := l) h1 hx1 (by omega)
    have rl := fun v l => ap_lt (n := m + 1) (d := f) (xs := xs) (l := b) (v := v) (l' := l)
    generalize ap (m + 1) f xs b = r at h rp rl ⊢
    walk_at "gx"
    refine forL_by (fun i S => ∃ (r : Option (Int × Nat)) (a2 a4 a5 a7 : M), S = [.v (repD f g), .v (.tup ((x :: xs).map D.int)), a2, .v (.str "repeat"), a4, a5, apO r, a7] ∧ lpK (repD f g) (x :: xs) R (r.bind fun r => apR (ap (m + 1) g) xs (x.toNat - i) i r) ∧ ∀ v l, r = some (v, l) → Vb l v ∧ i + l ≤ b) ?_ ?_ _ ⟨r, _, _, _, _, rfl, h, fun v l e => ⟨rp v l e, by have := rl v l e; omega⟩⟩
    · rintro i d S Kx hi ⟨r, a2, a4, a5, a7, rfl, hR, hr0⟩ hK
      obtain ⟨hi1, rfl⟩ := rngD_get hi
      have hi1 : i < x.toNat := by omega
      cases r with
      | none =>
        walk_at "gx"
        exact hR _
      | some r =>
      obtain ⟨rv, rl⟩ := r
      obtain ⟨r0, hrb⟩ := hr0 rv rl rfl
      rw [show x.toNat - i = (x.toNat - (i + 1)) + 1 by omega] at hR
      have hx2 : ∀ y ∈ ((i : Int) :: rv :: xs), Vb rl y := fun y hy => by
        rcases List.mem_cons.mp hy with rfl | hy
        · exact Vb.nat (by omega)
        rcases List.mem_cons.mp hy with rfl | hy
        · exact r0
        · exact (hx1 y hy).le (by omega)
      rw [show (0 : Int) + (i : Int) * 1 = i by omega]
      walk_at "gx"
      rw [cd]
      refine ⟨by rw [List.length_map, sizeLine_eq]; show 2 + _ ≤ _; omega, ?_⟩
      walk_at "gx"
      refine c__law_apply (xs := (i : Int) :: rv :: xs) h2 hx2 ⟨by rw [List.length_cons, List.length_cons]; omega, by omega, by omega⟩ fun _ => ?_
      have hR : lpK (repD f g) (x :: xs) R ((ap (m + 1) g ((i : Int) :: rv :: xs) rl).bind fun q => apR (ap (m + 1) g) xs (x.toNat - (i + 1)) (i + 1) q) := hR
      have rp := fun v l => ap_pos (v := v) (l' := l) (xs := (i : Int) :: rv :: xs) h2 hx2 (by omega)
      have rl2 := fun v l => ap_lt (n := m + 1) (d := g) (xs := (i : Int) :: rv :: xs) (l := rl) (v := v) (l' := l)
      walk_at "gx"
      exact hK _ ⟨_, _, _, _, _, rfl, hR, fun v l e => ⟨rp v l e, by have := rl2 v l e; omega⟩⟩
    · rintro S ⟨r, a2, a4, a5, a7, rfl, hR, hr0⟩
      rw [rngD_len] at hR
      have e : x.toNat - x.toNat = 0 := Nat.sub_self _
      first | rw [e] at hR | (rw [show x.toNat - (x - 0).toNat = 0 by omega] at hR)
      cases r with
      | none =>
        walk_at "gx"
        exact hR _
      | some r =>
        walk_at "gx"
        exact hR _
  · rw [ap_least] at h
    obtain ⟨m, rfl⟩ := dpos h1
    walk_at "gx"
    refine forL_by (fun k S => ∃ (l' : Nat) (a3 a4 a5 a6 a7 : M), S = [.v (leastD f), .v (.tup (xs.map D.int)), .v (.int l'), a3, a4, a5, a6, a7] ∧ lpK (leastD f) xs R (apM (ap (m + 1) f) xs (b + 1 - k) k l') ∧ k + l' ≤ b) ?_ ?_ _ ⟨b, _, _, _, _, _, rfl, h, by omega⟩
    · rintro k d S Kx hk ⟨l', a3, a4, a5, a6, a7, rfl, hM, hb2⟩ hK
      obtain ⟨hk, rfl⟩ := rngD_get hk
      have hk : k < b + 1 := by omega
      rw [show b + 1 - k = (b + 1 - (k + 1)) + 1 by omega] at hM
      have hM : lpK (leastD f) xs R ((ap (m + 1) f ((k : Int) :: xs) l').bind fun q => if q.1 = 0 then some ((k : Int), q.2) else apM (ap (m + 1) f) xs (b + 1 - (k + 1)) (k + 1) q.2) := hM
      have hx2 : ∀ y ∈ ((k : Int) :: xs), Vb l' y := fun y hy => by
        rcases List.mem_cons.mp hy with rfl | hy
        · exact Vb.nat (by omega)
        · exact (hx' y hy).le (by omega)
      rw [show (0 : Int) + (k : Int) * 1 = k by omega]
      walk_at "gx"
      refine ⟨by rw [List.length_map, sizeLine_eq]; show 1 + _ ≤ _; omega, ?_⟩
      walk_at "gx"
      refine c__law_apply (xs := (k : Int) :: xs) h1 hx2 ⟨by rw [List.length_cons]; omega, by omega, by omega⟩ fun _ => ?_
      cases hr : ap (m + 1) f ((k : Int) :: xs) l' with
      | none =>
        rw [hr] at hM
        walk_at "gx"
        exact hM _
      | some r =>
      obtain ⟨rv, rl⟩ := r
      rw [hr] at hM
      have hM : lpK (leastD f) xs R (if rv = 0 then some ((k : Int), rl) else apM (ap (m + 1) f) xs (b + 1 - (k + 1)) (k + 1) rl) := hM
      have hrl := ap_lt hr
      walk_at "gx"
      refine iteP_d (fun g0 => ?_) (fun g0 => ?_)
      · have g0 : rv = 0 := g0
        rw [if_pos g0] at hM
        walk_at "gx"
        exact hM _
      · rw [if_neg g0] at hM
        walk_at "gx"
        exact hK _ ⟨rl, _, _, _, _, _, rfl, hM, by omega⟩
    · rintro S ⟨l', a3, a4, a5, a6, a7, rfl, hM, hb2⟩
      rw [rngD_len] at hM
      rw [show b + 1 - ((b : Int) + 1).toNat = 0 by omega] at hM
      walk_at "gx"
      exact hM _
theorem is_check_arguments (ca : CA) : BodyIs mask_check_arguments 3 (b_check_arguments ca) (m_check_arguments ca) := by
  refine i_check_arguments fun d xs R XR hd hf hx h => ?_
  walk_at "gx"
  refine c_is_function hd.fd ?_
  rw [hf]
  walk_at "gx"
  refine c_arity hd.arr ?_
  walk_at "gx"
  refine gl_any (f := D.int) rfl (fun x => decide (x < 0)) (fun x hxm R hR => ?_) ?_
  · walk_at "gx"
    exact hR
  have e : (xs.any fun x => decide (x < 0)) = false := by
    rw [List.any_eq_false]
    intro x hxm
    have := hx x hxm
    simp
    omega
  rw [e]
  walk_at "gx"
  exact h
theorem is_evaluated (ca : CA) : BodyIs mask_evaluated 5 (b_evaluated ca) (m_evaluated ca) := by
  refine i_evaluated fun d xs b R XR hd hf hx hl hb h => ?_
  walk_at "gx"
  refine c_check_arguments hd hf (fun x hxm => (hx x hxm).1) ?_
  walk_at "gx"
  refine c_Evaluation___init__ ?_
  walk_at "gx"
  refine ⟨⟨rfl, by decide⟩, ?_⟩
  walk_at "gx"
  rw [show evO ca (b : Int) 0 = evO ca (b : Int) ((b : Int) - (b : Int)) by rw [Int.sub_self]]
  refine c_Evaluation_apply hd (fun x hxm => ⟨(hx x hxm).1, by have := (hx x hxm).2; omega⟩) ⟨by omega, by decide, hb, by omega, by omega⟩ (fun v l e => ?_) fun e => ?_
  · walk_at "gx"
    exact h.1 v l e
  · walk_at "gx"
    exact h.2 e
theorem is_value (ca : CA) : BodyIs mask_value 3 (b_value ca) (m_value ca) := by
  refine i_value fun d xs b R XR hd hf hx hl hb h => ?_
  walk_at "gx"
  refine c_evaluated hd hf hx hl hb ⟨fun v l e => ?_, fun e => ?_⟩
  · walk_at "gx"
    exact h.1 v l e
  · walk_at "gx"
    exact h.2 e
theorem is_applications (ca : CA) : BodyIs mask_applications 3 (b_applications ca) (m_applications ca) := by
  refine i_applications fun d xs b R XR hd hf hx hl hb h => ?_
  walk_at "gx"
  refine c_evaluated hd hf hx hl hb ⟨fun v l e => ?_, fun e => ?_⟩
  · walk_at "gx"
    exact h.1 v l e
  · walk_at "gx"
    exact h.2 e

theorem td_zero {n : Nat} {a : Int} (h0 : 0 ≤ a) (h1 : a ≤ 6) : Td (n + 1) a.toNat (zeroD a) := by
  obtain ⟨m, rfl⟩ := Int.eq_ofNat_of_zero_le h0
  exact .inl ⟨rfl, by omega⟩
theorem td_arg {n : Nat} {a z : Int} (h0 : 0 ≤ z) (h1 : z < a) (h2 : a ≤ 6) : Td (n + 1) a.toNat (argD a z) := by
  obtain ⟨m, rfl⟩ := Int.eq_ofNat_of_zero_le (show 0 ≤ a by omega)
  obtain ⟨i, rfl⟩ := Int.eq_ofNat_of_zero_le h0
  exact .inr (.inl ⟨i, rfl, by omega, by omega⟩)
theorem td_next {n : Nat} {a : Int} (h : a = 1) : Td (n + 1) a.toNat nextD := by
  subst h
  exact .inr (.inr (.inl ⟨rfl, rfl⟩))
theorem td_of {n : Nat} {a c : Int} {f : D} {gs : List D} (h0 : 1 ≤ c) (h1 : c ≤ 2) (e : gs.length = c.toNat) (hf : Td n c.toNat f) (hg : ∀ g ∈ gs, Td n a.toNat g) : Td (n + 1) a.toNat (ofD f gs) :=
  .inr (.inr (.inr (.inl ⟨f, gs, rfl, by omega, by omega, by rw [e]; exact hf, hg⟩)))
theorem td_rep {n : Nat} {a : Int} {f g : D} (h0 : 0 < a) (h1 : a ≤ 6) (hf : Td n (a - 1).toNat f) (hg : Td n (a + 1).toNat g) : Td (n + 1) a.toNat (repD f g) :=
  .inr (.inr (.inr (.inr (.inl ⟨f, g, (a - 1).toNat, rfl, by omega, by omega, hf, by rw [show (a - 1).toNat + 2 = (a + 1).toNat by omega]; exact hg⟩))))
theorem td_least {n : Nat} {a : Int} {f : D} (h0 : 0 ≤ a) (hf : Td n (a + 1).toNat f) : Td (n + 1) a.toNat (leastD f) :=
  .inr (.inr (.inr (.inr (.inr ⟨f, rfl, by rw [show a.toNat + 1 = (a + 1).toNat by omega]; exact hf⟩))))
theorem c__law_fun {n : Nat} {xs : List Int} {i many k : Int} {R : RMx} {XR : XM} (hx : 0 < xs.length ∧ xs.length ≤ 1000 ∧ ∀ x ∈ xs, 0 ≤ x) (h0 : 0 ≤ i) (h1 : 0 ≤ many ∧ many + k ≤ 7 ∧ 1 ≤ k ∧ k ≤ 5) (h2 : k ≤ n + 1) (h : ∀ d, Td (n + 1) many.toNat d → R (.v d) [.ml (xs.map D.int), .v (.int i), .v (.int many), .v (.int k)]) : m__law_fun (n + 1) [.ml (xs.map D.int), .v (.int i), .v (.int many), .v (.int k)] R XR := by
  unfold m__law_fun
  exact ⟨xs, i, many, k, rfl, hx, h0, h1, h2, h⟩
theorem is__law_fun (n : Nat) : BodyIs mask__law_fun 9 (b__law_fun (m__law_fun n)) (m__law_fun (n + 1)) := by
  intro ms R XR _ h
  unfold m__law_fun at h
  obtain ⟨xs, i, many, k, rfl, hx, h0, h1, h2, h⟩ := h
  obtain ⟨m00, mk, k0, k5⟩ := h1
  show b__law_fun (m__law_fun n) (bodyE mask__law_fun R XR) [_, _, _, _, .gone, .gone, .gone, .gone, .gone]
  walk_at "gx"
  have m0 := Int.emod_nonneg i (show ((xs.map D.int).length : Int) ≠ 0 by rw [List.length_map]; omega)
  have m1 := Int.emod_lt_of_pos i (show 0 < ((xs.map D.int).length : Int) by rw [List.length_map]; omega)
  refine ix_mem (f := D.int) (xs := xs) rfl m0 (by rw [List.length_map] at m1; rw [List.length_map]; exact m1) fun x hxm => ?_
  have x0 := hx.2.2 x hxm
  walk_at "gx"
  refine iteP_d (fun g => ?_) (fun g => ?_)
  · walk_at "gx"
    refine iteP_d (fun g3 => ?_) (fun g3 => ?_)
    · walk_at "gx"
      refine iteP_d (fun g4 => ?_) (fun g4 => ?_)
      · walk_at "gx"
        exact h _ (td_next g3)
      · walk_at "gx"
        refine iteP_d (fun g6 => ?_) (fun g6 => ?_)
        · walk_at "gx"
          exact h _ (td_arg (Int.emod_nonneg _ (by omega)) (Int.emod_lt_of_pos _ (by omega)) (by omega))
        · walk_at "gx"
          exact h _ (td_zero (by omega) (by omega))
    · walk_at "gx"
      refine iteP_d (fun g5 => ?_) (fun g5 => ?_)
      · walk_at "gx"
        refine iteP_d (fun g6 => ?_) (fun g6 => ?_)
        · walk_at "gx"
          exact h _ (td_arg (Int.emod_nonneg _ (by omega)) (Int.emod_lt_of_pos _ (by omega)) (by omega))
        · walk_at "gx"
          exact h _ (td_zero (by omega) (by omega))
      · walk_at "gx"
        exact h _ (td_zero (by omega) (by omega))
  walk_at "gx"
  refine iteP_d (fun g2 => ?_) (fun g2 => ?_)
  · walk_at "gx"
    refine iteP_d (fun g3 => ?_) (fun g3 => ?_)
    · walk_at "gx"
      refine iteP_d (fun g4 => ?_) (fun g4 => ?_)
      · walk_at "gx"
        exact h _ (td_next g3)
      · walk_at "gx"
        refine iteP_d (fun g6 => ?_) (fun g6 => ?_)
        · walk_at "gx"
          exact h _ (td_arg (Int.emod_nonneg _ (by omega)) (Int.emod_lt_of_pos _ (by omega)) (by omega))
        · walk_at "gx"
          exact h _ (td_zero (by omega) (by omega))
    · walk_at "gx"
      refine iteP_d (fun g5 => ?_) (fun g5 => ?_)
      · walk_at "gx"
        refine iteP_d (fun g6 => ?_) (fun g6 => ?_)
        · walk_at "gx"
          exact h _ (td_arg (Int.emod_nonneg _ (by omega)) (Int.emod_lt_of_pos _ (by omega)) (by omega))
        · walk_at "gx"
          exact h _ (td_zero (by omega) (by omega))
      · walk_at "gx"
        exact h _ (td_zero (by omega) (by omega))
  cases n with
  | zero => omega
  | succ n =>
  walk_at "gx"
  refine iteP_d (fun g3 => ?_) (fun g3 => ?_)
  · walk_at "gx"
    have c0 := Int.emod_nonneg ((x + 17 * i) / 9) (show (2 : Int) ≠ 0 by decide)
    have c1 := Int.emod_lt_of_pos ((x + 17 * i) / 9) (show (0 : Int) < 2 by decide)
    generalize (x + 17 * i) / 9 % 2 = c at c0 c1 ⊢
    refine lcL_by (fun j acc S => (∀ g ∈ acc, Td (n + 1) many.toNat g) ∧ acc.length = j ∧ S = [_, _, _, _, _, _, _, .gone, .gone]) ?_ ?_ _ _ ⟨(fun _ z => nomatch z), rfl, rfl⟩
    · rintro j d acc S Kx hj ⟨ha, hl, rfl⟩ hK
      obtain ⟨hj, rfl⟩ := rngD_get hj
      walk_at "gx"
      refine c__law_fun hx (by omega) ⟨by omega, by omega, by omega, by omega⟩ (by omega) fun g hg => ?_
      walk_at "gx"
      refine hK _ _ ⟨fun y hy => ?_, by rw [List.length_append, hl]; rfl, rfl⟩
      rcases List.mem_append.mp hy with w | w
      · exact ha y w
      · rw [List.mem_singleton.mp w]
        exact hg
    · rintro acc S ⟨ha, hl, rfl⟩
      rw [rngD_len] at hl
      walk_at "gx"
      refine c__law_fun hx (by omega) ⟨by omega, by omega, by omega, by omega⟩ (by omega) fun f hf => ?_
      walk_at "gx"
      exact h _ (td_of (by omega) (by omega) (by omega) hf ha)
  walk_at "gx"
  refine iteP_d (fun g4 => ?_) (fun g4 => ?_)
  · walk_at "gx"
    refine iteP_d (fun g9 => ?_) (fun g9 => ?_)
    · walk_at "gx"
      have c0 := Int.emod_nonneg ((x + 17 * i) / 9) (show (2 : Int) ≠ 0 by decide)
      have c1 := Int.emod_lt_of_pos ((x + 17 * i) / 9) (show (0 : Int) < 2 by decide)
      generalize (x + 17 * i) / 9 % 2 = c at c0 c1 ⊢
      refine lcL_by (fun j acc S => (∀ g ∈ acc, Td (n + 1) many.toNat g) ∧ acc.length = j ∧ S = [_, _, _, _, _, _, _, .gone, .gone]) ?_ ?_ _ _ ⟨(fun _ z => nomatch z), rfl, rfl⟩
      · rintro j d acc S Kx hj ⟨ha, hl, rfl⟩ hK
        obtain ⟨hj, rfl⟩ := rngD_get hj
        walk_at "gx"
        refine c__law_fun hx (by omega) ⟨by omega, by omega, by omega, by omega⟩ (by omega) fun g hg => ?_
        walk_at "gx"
        refine hK _ _ ⟨fun y hy => ?_, by rw [List.length_append, hl]; rfl, rfl⟩
        rcases List.mem_append.mp hy with w | w
        · exact ha y w
        · rw [List.mem_singleton.mp w]
          exact hg
      · rintro acc S ⟨ha, hl, rfl⟩
        rw [rngD_len] at hl
        walk_at "gx"
        refine c__law_fun hx (by omega) ⟨by omega, by omega, by omega, by omega⟩ (by omega) fun f hf => ?_
        walk_at "gx"
        exact h _ (td_of (by omega) (by omega) (by omega) hf ha)
    walk_at "gx"
    refine iteP_d (fun g5 => ?_) (fun g5 => ?_)
    · walk_at "gx"
      refine c__law_fun hx (by omega) ⟨by omega, by omega, by omega, by omega⟩ (by omega) fun f hf => ?_
      walk_at "gx"
      exact h _ (td_least m00 hf)
    · walk_at "gx"
      refine c__law_fun hx (by omega) ⟨by omega, by omega, by omega, by omega⟩ (by omega) fun f hf => ?_
      walk_at "gx"
      exact h _ (td_least m00 hf)
  walk_at "gx"
  refine iteP_d (fun g5 => ?_) (fun g5 => ?_)
  · walk_at "gx"
    refine c__law_fun hx (by omega) ⟨by omega, by omega, by omega, by omega⟩ (by omega) fun f hf => ?_
    walk_at "gx"
    refine c__law_fun hx (by omega) ⟨by omega, by omega, by omega, by omega⟩ (by omega) fun g hg => ?_
    walk_at "gx"
    exact h _ (td_rep (by omega) (by omega) hf hg)
  · walk_at "gx"
    refine c__law_fun hx (by omega) ⟨by omega, by omega, by omega, by omega⟩ (by omega) fun f hf => ?_
    walk_at "gx"
    exact h _ (td_least m00 hf)

theorem is__law_told (ca : CA) : BodyIs mask__law_told 5 (b__law_told ca) (m__law_told ca) := by
  refine i__law_told fun d xs b w R XR hd hf hx hl hb h => ?_
  walk_at "gx"
  refine iteP_d (fun g => ?_) (fun g => ?_)
  · walk_at "gx"
    refine c_value hd hf hx hl hb ⟨fun v l e => ?_, fun e => ?_⟩
    · rw [e] at h
      have h : R (.v (.tup [.str "value", .int (if w = 0 then v else (b : Int) - l)])) [.v d, .v (.tup (xs.map D.int)), .v (.int b), .v (.int w)] := h
      rw [if_pos g] at h
      walk_at "gx"
      exact h
    · rw [e] at h
      walk_at "gx"
      intro ad dd
      walk_at "gx"
      exact h
  · walk_at "gx"
    refine c_applications hd hf hx hl hb ⟨fun v l e => ?_, fun e => ?_⟩
    · rw [e] at h
      have h : R (.v (.tup [.str "value", .int (if w = 0 then v else (b : Int) - l)])) [.v d, .v (.tup (xs.map D.int)), .v (.int b), .v (.int w)] := h
      rw [if_neg g] at h
      walk_at "gx"
      exact h
    · rw [e] at h
      walk_at "gx"
      intro ad dd
      walk_at "gx"
      exact h
theorem is_law (ca : CA) : BodyIs mask_law 9 (b_law ca) m_law := by
  refine i_law fun ns R XR hns h => ?_
  walk_at "gx"
  refine forL_by (fun i S => ∃ a1 a2 a3 a4 a5 a6 a7 : M, S = [.v (.lst (ns.map D.int)), a1, a2, a3, a4, a5, a6, a7, .gone]) ?_ ?_ _ ⟨_, _, _, _, _, _, _, rfl⟩
  rotate_left
  · rintro S ⟨a1, a2, a3, a4, a5, a6, a7, rfl⟩
    walk_at "gx"
    exact h _
  rintro i y S Kx hi ⟨a1, a2, a3, a4, a5, a6, a7, rfl⟩ hK
  obtain ⟨hi1, rfl⟩ := rngD_get hi
  walk_at "gx"
  refine c__law_cell (by omega) fun c hc => ?_
  walk_at "gx"
  refine c__law_draws hc (by decide) (by decide) fun xs hxs => ?_
  have hl : xs.length = 60 := hxs.1
  have at_ : ∀ x ∈ xs, 0 ≤ x ∧ x < 4096 := hxs.2
  have ix : ∀ (j : Int) (Q : D → Prop), 0 ≤ j → j < 60 → (∀ x : Int, 0 ≤ x → Q (.int x)) → ∃ ds d, sqV (.ml (xs.map D.int)) = some ds ∧ atI ds j = some d ∧ Q d := fun j Q j0 j1 hq =>
    ix_mem (f := D.int) (xs := xs) rfl j0 (by omega) fun x hxm => hq x (at_ x hxm).1
  walk_at "gx"
  refine ix _ _ (by decide) (by decide) fun x0 _ => ?_
  walk_at "gx"
  refine ix _ _ (by decide) (by decide) fun x1 _ => ?_
  walk_at "gx"
  have p1 := Int.emod_nonneg x0 (show (4 : Int) ≠ 0 by decide)
  have p4 := Int.emod_lt_of_pos x0 (show (0 : Int) < 4 by decide)
  have p2 := Int.emod_nonneg x1 (show (3 : Int) ≠ 0 by decide)
  have p3 := Int.emod_lt_of_pos x1 (show (0 : Int) < 3 by decide)
  generalize x0 % 4 = mm at p1 p4 ⊢
  generalize x1 % 3 = kk at p2 p3 ⊢
  refine c__law_fun ⟨by omega, by omega, fun x hxm => (at_ x hxm).1⟩ (by omega) ⟨p1, by omega, by omega, by omega⟩ (by omega) fun d hd => ?_
  obtain ⟨m, rfl⟩ := Int.eq_ofNat_of_zero_le p1
  have hd : Td 4 m d := hd
  have h18 := hd.up (show 4 ≤ 18 by decide)
  walk_at "gx"
  refine c__law_is_fun h18.fd ?_
  rw [hd.fits]
  walk_at "gx"
  refine c__law_arity h18.arr ?_
  walk_at "gx"
  refine lcL_by (fun j acc S => ∃ ws : List Int, acc = ws.map D.int ∧ (∀ w ∈ ws, 0 ≤ w ∧ w ≤ 1000) ∧ ws.length = j ∧ S = [.v (.lst (ns.map D.int)), .v (.int (0 + (i : Int) * 1)), .ml (xs.map D.int), .v d, a4, a5, a6, a7, .gone]) ?_ ?_ _ _ ⟨[], rfl, (fun _ z => nomatch z), rfl, rfl⟩
  · rintro j y acc S K2 hj ⟨ws, rfl, hw, hwl, rfl⟩ hK2
    obtain ⟨hj1, rfl⟩ := rngD_get hj
    have hj1 : j < m := by omega
    walk_at "gx"
    refine ix _ _ (by omega) (by omega) fun x2 _ => ?_
    walk_at "gx"
    have q0 := Int.emod_nonneg x2 (show (5 : Int) ≠ 0 by decide)
    have q1 := Int.emod_lt_of_pos x2 (show (0 : Int) < 5 by decide)
    refine hK2 _ _ ⟨ws ++ [x2 % 5], by rw [List.map_append]; rfl, fun w hwm => ?_, by rw [List.length_append, hwl]; rfl, rfl⟩
    rcases List.mem_append.mp hwm with q | q
    · exact hw w q
    · rw [List.mem_singleton.mp q]
      exact ⟨q0, by omega⟩
  rintro acc S ⟨ws, rfl, hw, hwl, rfl⟩
  rw [rngD_len] at hwl
  have hwl : ws.length = m := by omega
  subst hwl
  have ht : ∀ (b : Nat) (w : Int) (R' : RMx) (XR' : XM), b ≤ 1000000 → R' (.v (toldD w b (ap 18 d ws b))) [.v d, .v (.tup (ws.map D.int)), .v (.int b), .v (.int w)] → m__law_told ca [.v d, .v (.tup (ws.map D.int)), .v (.int b), .v (.int w)] R' XR' := fun b w R' XR' hb hR =>
    c__law_told h18 hd.fits hw (by omega) hb hR
  walk_at "gx"
  refine c__law_apply (b := 300) h18 (fun x hxm => ⟨(hw x hxm).1, by have := (hw x hxm).2; omega⟩) ⟨by omega, by omega, by omega⟩ fun _ => ?_
  cases e : ap 18 d ws 300 with
  | none =>
    walk_at "gx"
    refine forL_by (fun j S => ∃ a6 : M, S = [.v (.lst (ns.map D.int)), .v (.int (0 + (i : Int) * 1)), .ml (xs.map D.int), .v d, .v (.tup (ws.map D.int)), .v .non, a6, a7, .gone]) ?_ ?_ _ ⟨_, rfl⟩
    · rintro j y S K2 hj ⟨a6, rfl⟩ hK2
      obtain ⟨hj1, rfl⟩ := rngD_get hj
      walk_at "gx"
      refine ht 300 _ _ _ (by decide) ?_
      rw [e]
      walk_at "gx"
      refine c__law_like (.tup [.str "long", .int 300]) rfl rfl (.tup (by decide) fun y hy => ?_) ?_
      · rcases List.mem_cons.mp hy with rfl | hy
        · exact .str (by decide +kernel)
        · rw [List.mem_singleton.mp hy]
          exact .int
      walk_at "gx"
      exact hK2 _ ⟨_, rfl⟩
    · rintro S ⟨a6, rfl⟩
      walk_at "gx"
      exact hK _ ⟨_, _, _, _, _, _, _, rfl⟩
  | some r =>
    obtain ⟨v, l⟩ := r
    have hlt := ap_lt e
    have hs := (ap_sh (n := 18) (d := d) (xs := ws) 300 v l e).2
    obtain ⟨u, hu⟩ : ∃ u : Nat, l + u = 299 := ⟨299 - l, by omega⟩
    have e1 : ap 18 d ws (u + 1) = some (v, 0) := by
      rw [(hs (u + 1)).1 (by omega)]
      congr 2
      omega
    have e2 : ap 18 d ws u = none := (hs u).2 (by omega)
    have pl2 : ∀ {t : Str} {z : Int}, PyData.strOk t = true → Pl true 8 (.tup [.str t, .int z]) := fun {t z} ht => .tup (by show 2 ≤ _; decide) fun y hy => by
      rcases List.mem_cons.mp hy with rfl | hy
      · exact .str ht
      · rw [List.mem_singleton.mp hy]
        exact .int
    walk_at "gx"
    rw [show (300 : Int) - (l : Int) = ((u + 1 : Nat) : Int) by omega]
    refine ht (u + 1) 0 _ _ (by omega) ?_
    rw [e1]
    walk_at "gx"
    refine c__law_like (.tup [.str "value", .int v]) rfl rfl (pl2 (by decide +kernel)) ?_
    walk_at "gx"
    refine ht (u + 1) 1 _ _ (by omega) ?_
    rw [e1]
    walk_at "gx"
    refine c__law_like (.tup [.str "value", .int ((u + 1 : Nat) : Int)]) (by show some (D.tup [.str "value", .int (((u + 1 : Nat) : Int) - ((0 : Nat) : Int))]) = _; rw [show ((u + 1 : Nat) : Int) - ((0 : Nat) : Int) = ((u + 1 : Nat) : Int) by omega]) rfl (pl2 (by decide +kernel)) ?_
    walk_at "gx"
    rw [show ((u + 1 : Nat) : Int) - 1 = (u : Int) by omega]
    refine ix _ _ (by decide) (by decide) fun x3 _ => ?_
    walk_at "gx"
    refine ht u _ _ _ (by omega) ?_
    rw [e2]
    walk_at "gx"
    refine c__law_like (.tup [.str "long", .int u]) rfl (show some (D.tup [.str "long", .int (((u + 1 : Nat) : Int) - 1)]) = _ by rw [show ((u + 1 : Nat) : Int) - 1 = (u : Int) by omega]) (pl2 (by decide +kernel)) ?_
    walk_at "gx"
    exact hK _ ⟨_, _, _, _, _, _, _, rfl⟩

theorem law_start [Tabs] {K : PySem.W.Frag} {H : Hp} {a : Addr} {ns : List Int} (hT : TabsOk H []) (hl : ns.length ≤ 63) (hS : SqL K H a (ns.map V.int)) : spOf K 1 m_law [.ref a] H (fun v _ => v = .bl true) fun _ _ _ => False :=
  start_law hT hS fun R h => by
    unfold m_law
    exact ⟨ns, rfl, hl, h⟩

structure Adr where
  ca : CA
  f__law_cell : Addr
  d__law_cell : FuncData
  f__law_draws : Addr
  d__law_draws : FuncData
  f__law_fun : Addr
  d__law_fun : FuncData
  f__law_pieces : Addr
  d__law_pieces : FuncData
  f__law_deep : Addr
  d__law_deep : FuncData
  f__law_count : Addr
  d__law_count : FuncData
  f__law_arity : Addr
  d__law_arity : FuncData
  f__law_fits_well : Addr
  d__law_fits_well : FuncData
  f__law_is_fun : Addr
  d__law_is_fun : FuncData
  f__law_apply : Addr
  d__law_apply : FuncData
  f_parts : Addr
  d_parts : FuncData
  f_depth : Addr
  d_depth : FuncData
  f_count_parts : Addr
  d_count_parts : FuncData
  f_arity : Addr
  d_arity : FuncData
  f_has_right_arities : Addr
  d_has_right_arities : FuncData
  f_is_function : Addr
  d_is_function : FuncData
  f_check_arguments : Addr
  d_check_arguments : FuncData
  f_Evaluation___init__ : Addr
  d_Evaluation___init__ : FuncData
  f_Evaluation_repeat : Addr
  d_Evaluation_repeat : FuncData
  f_Evaluation_apply : Addr
  d_Evaluation_apply : FuncData
  f_evaluated : Addr
  d_evaluated : FuncData
  f_value : Addr
  d_value : FuncData
  f_applications : Addr
  d_applications : FuncData
  f__law_told : Addr
  d__law_told : FuncData
  f__law_like : Addr
  d__law_like : FuncData
  f_law : Addr
  d_law : FuncData
  c_has_right_arities : Addr
  p_has_right_arities : Addr
  c_check_arguments : Addr
  p_check_arguments : Addr
  t_MOST_ARITY : Tok
  t_MOST_DEPTH : Tok
  t_MOST_PARTS : Tok
structure Txt [Tabs] (P : Program) (K : PySem.W.Frag) (mg : Str → Option Value) (a : Adr) : Prop where
  F__law_cell : FunD K "_law_cell" "_law_cell" (defArgs st__law_cell) (defBody st__law_cell) (defScope st__law_cell) [] [] a.f__law_cell a.d__law_cell
  m__law_cell : mg "_law_cell" = some (.ref a.f__law_cell)
  b__law_cell : Binds K a.d__law_cell ["_law_script", "_law_k"] []
  F__law_draws : FunD K "_law_draws" "_law_draws" (defArgs st__law_draws) (defBody st__law_draws) (defScope st__law_draws) [] [] a.f__law_draws a.d__law_draws
  m__law_draws : mg "_law_draws" = some (.ref a.f__law_draws)
  b__law_draws : Binds K a.d__law_draws ["_law_cell_here", "_law_count_here"] []
  F__law_fun : FunD K "_law_fun" "_law_fun" (defArgs st__law_fun) (defBody st__law_fun) (defScope st__law_fun) [] [] a.f__law_fun a.d__law_fun
  m__law_fun : mg "_law_fun" = some (.ref a.f__law_fun)
  b__law_fun : Binds K a.d__law_fun ["_law_draws_here", "_law_at", "_law_many", "_law_deep_here"] []
  F__law_pieces : FunD K "_law_pieces" "_law_pieces" (defArgs st__law_pieces) (defBody st__law_pieces) (defScope st__law_pieces) [] [] a.f__law_pieces a.d__law_pieces
  m__law_pieces : mg "_law_pieces" = some (.ref a.f__law_pieces)
  b__law_pieces : Binds K a.d__law_pieces ["_law_thing"] []
  F__law_deep : FunD K "_law_deep" "_law_deep" (defArgs st__law_deep) (defBody st__law_deep) (defScope st__law_deep) [] [] a.f__law_deep a.d__law_deep
  m__law_deep : mg "_law_deep" = some (.ref a.f__law_deep)
  b__law_deep : Binds K a.d__law_deep ["_law_thing"] []
  F__law_count : FunD K "_law_count" "_law_count" (defArgs st__law_count) (defBody st__law_count) (defScope st__law_count) [] [] a.f__law_count a.d__law_count
  m__law_count : mg "_law_count" = some (.ref a.f__law_count)
  b__law_count : Binds K a.d__law_count ["_law_thing"] []
  F__law_arity : FunD K "_law_arity" "_law_arity" (defArgs st__law_arity) (defBody st__law_arity) (defScope st__law_arity) [] [] a.f__law_arity a.d__law_arity
  m__law_arity : mg "_law_arity" = some (.ref a.f__law_arity)
  b__law_arity : Binds K a.d__law_arity ["_law_thing"] []
  F__law_fits_well : FunD K "_law_fits_well" "_law_fits_well" (defArgs st__law_fits_well) (defBody st__law_fits_well) (defScope st__law_fits_well) [] [] a.f__law_fits_well a.d__law_fits_well
  m__law_fits_well : mg "_law_fits_well" = some (.ref a.f__law_fits_well)
  b__law_fits_well : Binds K a.d__law_fits_well ["_law_thing"] []
  F__law_is_fun : FunD K "_law_is_fun" "_law_is_fun" (defArgs st__law_is_fun) (defBody st__law_is_fun) (defScope st__law_is_fun) [] [] a.f__law_is_fun a.d__law_is_fun
  m__law_is_fun : mg "_law_is_fun" = some (.ref a.f__law_is_fun)
  b__law_is_fun : Binds K a.d__law_is_fun ["_law_thing"] []
  F__law_apply : FunD K "_law_apply" "_law_apply" (defArgs st__law_apply) (defBody st__law_apply) (defScope st__law_apply) [] [] a.f__law_apply a.d__law_apply
  m__law_apply : mg "_law_apply" = some (.ref a.f__law_apply)
  b__law_apply : Binds K a.d__law_apply ["_law_thing", "_law_arguments", "_law_left"] []
  F_parts : FunD K "parts" "parts" (defArgs st_parts) (defBody st_parts) (defScope st_parts) [] [] a.f_parts a.d_parts
  m_parts : mg "parts" = some (.ref a.f_parts)
  b_parts : Binds K a.d_parts ["function"] []
  F_depth : FunD K "depth" "depth" (defArgs st_depth) (defBody st_depth) (defScope st_depth) [] [] a.f_depth a.d_depth
  m_depth : mg "depth" = some (.ref a.f_depth)
  b_depth : Binds K a.d_depth ["function"] []
  F_count_parts : FunD K "count_parts" "count_parts" (defArgs st_count_parts) (defBody st_count_parts) (defScope st_count_parts) [] [] a.f_count_parts a.d_count_parts
  m_count_parts : mg "count_parts" = some (.ref a.f_count_parts)
  b_count_parts : Binds K a.d_count_parts ["function"] []
  F_arity : FunD K "arity" "arity" (defArgs st_arity) (defBody st_arity) (defScope st_arity) [] [] a.f_arity a.d_arity
  m_arity : mg "arity" = some (.ref a.f_arity)
  b_arity : Binds K a.d_arity ["function"] []
  F_has_right_arities : FunD K "has_right_arities" "has_right_arities" (defArgs st_has_right_arities) (defBody st_has_right_arities) (defScope st_has_right_arities) [] [] a.f_has_right_arities a.d_has_right_arities
  m_has_right_arities : mg "has_right_arities" = some (.ref a.f_has_right_arities)
  b_has_right_arities : Binds K a.d_has_right_arities ["function"] []
  F_is_function : FunD K "is_function" "is_function" (defArgs st_is_function) (defBody st_is_function) (defScope st_is_function) [] [] a.f_is_function a.d_is_function
  m_is_function : mg "is_function" = some (.ref a.f_is_function)
  b_is_function : Binds K a.d_is_function ["thing"] []
  F_check_arguments : FunD K "check_arguments" "check_arguments" (defArgs st_check_arguments) (defBody st_check_arguments) (defScope st_check_arguments) [] [] a.f_check_arguments a.d_check_arguments
  m_check_arguments : mg "check_arguments" = some (.ref a.f_check_arguments)
  b_check_arguments : Binds K a.d_check_arguments ["function", "arguments"] []
  F_Evaluation___init__ : FunD K "__init__" "Evaluation.__init__" (defArgs st_Evaluation___init__) (defBody st_Evaluation___init__) (defScope st_Evaluation___init__) [] [] a.f_Evaluation___init__ a.d_Evaluation___init__
  b_Evaluation___init__ : Binds K a.d_Evaluation___init__ ["self", "limit"] []
  F_Evaluation_repeat : FunD K "repeat" "Evaluation.repeat" (defArgs st_Evaluation_repeat) (defBody st_Evaluation_repeat) (defScope st_Evaluation_repeat) [] [] a.f_Evaluation_repeat a.d_Evaluation_repeat
  b_Evaluation_repeat : Binds K a.d_Evaluation_repeat ["self", "function", "count", "rest"] []
  F_Evaluation_apply : FunD K "apply" "Evaluation.apply" (defArgs st_Evaluation_apply) (defBody st_Evaluation_apply) (defScope st_Evaluation_apply) [] [] a.f_Evaluation_apply a.d_Evaluation_apply
  b_Evaluation_apply : Binds K a.d_Evaluation_apply ["self", "function", "arguments"] []
  F_evaluated : FunD K "evaluated" "evaluated" (defArgs st_evaluated) (defBody st_evaluated) (defScope st_evaluated) [] [] a.f_evaluated a.d_evaluated
  m_evaluated : mg "evaluated" = some (.ref a.f_evaluated)
  b_evaluated : Binds K a.d_evaluated ["function", "arguments", "limit"] []
  F_value : FunD K "value" "value" (defArgs st_value) (defBody st_value) (defScope st_value) [] [("limit", .int 100000)] a.f_value a.d_value
  m_value : mg "value" = some (.ref a.f_value)
  kb_value : ∃ mv : List Value, KBn K a.d_value ["function", "arguments", "limit"] 2 ["limit"] (fun us ws => us ++ ws) (fun vs zs => vs ++ zs)
  b_value : ∃ ds, Vals [V.int 100000] ds ∧ Binds K a.d_value ["function", "arguments", "limit"] ds
  F_applications : FunD K "applications" "applications" (defArgs st_applications) (defBody st_applications) (defScope st_applications) [] [("limit", .int 100000)] a.f_applications a.d_applications
  m_applications : mg "applications" = some (.ref a.f_applications)
  kb_applications : ∃ mv : List Value, KBn K a.d_applications ["function", "arguments", "limit"] 2 ["limit"] (fun us ws => us ++ ws) (fun vs zs => vs ++ zs)
  b_applications : ∃ ds, Vals [V.int 100000] ds ∧ Binds K a.d_applications ["function", "arguments", "limit"] ds
  F__law_told : FunD K "_law_told" "_law_told" (defArgs st__law_told) (defBody st__law_told) (defScope st__law_told) [] [] a.f__law_told a.d__law_told
  m__law_told : mg "_law_told" = some (.ref a.f__law_told)
  b__law_told : Binds K a.d__law_told ["_law_thing", "_law_arguments", "_law_limit", "_law_way"] []
  F__law_like : FunD K "_law_like" "_law_like" (defArgs st__law_like) (defBody st__law_like) (defScope st__law_like) [] [] a.f__law_like a.d__law_like
  m__law_like : mg "_law_like" = some (.ref a.f__law_like)
  b__law_like : Binds K a.d__law_like ["_law_actual", "_law_due"] []
  F_law : FunD K "law" "law" (defArgs st_law) (defBody st_law) (defScope st_law) [] [] a.f_law a.d_law
  m_law : mg "law" = some (.ref a.f_law)
  b_law : Binds K a.d_law ["_law_script"] []
  cd_has_right_arities : a.d_has_right_arities.code = .ref a.c_has_right_arities
  tb_has_right_arities : a.p_has_right_arities ∈ Tabs.ts
  cd_check_arguments : a.d_check_arguments.code = .ref a.c_check_arguments
  tb_check_arguments : a.p_check_arguments ∈ Tabs.ts
  g_MOST_ARITY : mg "MOST_ARITY" = some (.int 6 a.t_MOST_ARITY)
  g_MOST_DEPTH : mg "MOST_DEPTH" = some (.int 12 a.t_MOST_DEPTH)
  g_MOST_PARTS : mg "MOST_PARTS" = some (.int 200 a.t_MOST_PARTS)
  n_abs : mg "abs" = none
  n_all : mg "all" = none
  n_any : mg "any" = none
  n_bool : mg "bool" = none
  n_int : mg "int" = none
  n_isinstance : mg "isinstance" = none
  n_len : mg "len" = none
  n_list : mg "list" = none
  n_max : mg "max" = none
  n_range : mg "range" = none
  n_str : mg "str" = none
  n_sum : mg "sum" = none
  n_tuple : mg "tuple" = none
  mgC_Evaluation : mg "Evaluation" = some (.ref a.ca.c_Evaluation)
  cl_Evaluation : Cls K a.ca.c_Evaluation
  na_Evaluation_count : NoAttr K a.ca.c_Evaluation "count"
  na_Evaluation_limit : NoAttr K a.ca.c_Evaluation "limit"
  mk_Evaluation : Mk K a.ca.c_Evaluation a.f_Evaluation___init__
  me_Evaluation_apply : Meth K a.ca.c_Evaluation "apply" a.f_Evaluation_apply
  me_Evaluation_repeat : Meth K a.ca.c_Evaluation "repeat" a.f_Evaluation_repeat
  mgX_TooLong : mg "TooLong" = some (.ref a.ca.c_TooLong)
  bx_TooLong : PySem.W.subIn K (.ref a.ca.c_TooLong) (.type "BaseException") = some true
  tx_TooLong : PySem.W.typeIn K (.ref a.ca.c_TooLong) = some (.type "type")
  hx_TooLong : PySem.W.hasDictIn K a.ca.c_TooLong = true
  mgX_InvalidFunction : mg "InvalidFunction" = some (.ref a.ca.c_InvalidFunction)
  bx_InvalidFunction : PySem.W.subIn K (.ref a.ca.c_InvalidFunction) (.type "BaseException") = some true
  tx_InvalidFunction : PySem.W.typeIn K (.ref a.ca.c_InvalidFunction) = some (.type "type")
  xx_InvalidFunction : PySem.W.excIn K a.ca.c_InvalidFunction [.type "ValueError", .type "Exception", .type "BaseException", .type "object"] "ValueError.__new__" = true
  kx_InvalidFunction : PySem.W.keepIn K (.ref a.ca.c_InvalidFunction) = true
  mgX_BadArgument : mg "BadArgument" = some (.ref a.ca.c_BadArgument)
  bx_BadArgument : PySem.W.subIn K (.ref a.ca.c_BadArgument) (.type "BaseException") = some true
  tx_BadArgument : PySem.W.typeIn K (.ref a.ca.c_BadArgument) = some (.type "type")
  xx_BadArgument : PySem.W.excIn K a.ca.c_BadArgument [.type "ValueError", .type "Exception", .type "BaseException", .type "object"] "ValueError.__new__" = true
  kx_BadArgument : PySem.W.keepIn K (.ref a.ca.c_BadArgument) = true
  sx_TooLong : SupX P K mg a.ca.c_TooLong "limit"
  xf_TooLong : XfC K a.ca.c_TooLong
  nx_TooLong_limit : PySem.W.findIn K (.ref a.ca.c_TooLong) "limit" = some none
  sub_BadArgument_TooLong : PySem.W.subIn K (.ref a.ca.c_BadArgument) (.ref a.ca.c_TooLong) = some false
  sub_InvalidFunction_TooLong : PySem.W.subIn K (.ref a.ca.c_InvalidFunction) (.ref a.ca.c_TooLong) = some false
  sub_TooLong_TooLong : PySem.W.subIn K (.ref a.ca.c_TooLong) (.ref a.ca.c_TooLong) = some true
structure TxB (mg : Str → Option Value) (base : Heap) (a : Adr) : Prop where
  t_has_right_arities : GxR.TabB base mg a.c_has_right_arities a.p_has_right_arities
  t_check_arguments : GxR.TabB base mg a.c_check_arguments a.p_check_arguments
section
variable [Tabs] {P : Program} {w : World} {K : PySem.W.Frag} {mg : Str → Option Value} {base : Heap} {a : Adr}
theorem sc__law_cell : FnScope N__law_cell ["_law_script", "_law_k"] (defScope st__law_cell) := ⟨rfl, rfl, rfl, by decide +kernel, rfl, by decide +kernel, by decide +kernel⟩
set_option maxHeartbeats 4000000 in
theorem d__law_cell (T : Txt P K mg a) {k : Nat} {cdv : Value} {A : Around} {outer : List Env} {s : Shared} {H : Hp} {E : XK} (hcd : a.d__law_cell.code = cdv) (hr : Room k (A.deeper (envOfC "_law_cell" (defScope st__law_cell) s.heap.objs.size a.f__law_cell cdv))) (tk : Takes (cxOf (L2.CX P w) P w K mg base N__law_cell "_law_cell" (defScope st__law_cell) a.f__law_cell cdv A outer s H E) (fun c d _ H => E c d H))
    (hp : PassesOwn (model P w) (A.deeper (envOfC "_law_cell" (defScope st__law_cell) s.heap.objs.size a.f__law_cell cdv)) (envOfC "_law_cell" (defScope st__law_cell) s.heap.objs.size a.f__law_cell cdv) (cxOf (L2.CX P w) P w K mg base N__law_cell "_law_cell" (defScope st__law_cell) a.f__law_cell cdv A outer s H E).xe) :
    DSs (cxOf (L2.CX P w) P w K mg base N__law_cell "_law_cell" (defScope st__law_cell) a.f__law_cell cdv A outer s H E) (fun c d _ H => E c d H) mask__law_cell (defBody st__law_cell) (b__law_cell) :=
  have sc := sc__law_cell
  (dss_cons (ds_if (dt_cmp o_lt (do_m (de_v 1)) (do_m (de_callB c_len rfl T.n_len (by decide +kernel) (dos_cons (do_m (de_v 0)) dos_nil)))) (dss_one (ds_ret (de_callB c_abs rfl T.n_abs (by decide +kernel) (dos_cons (do_m (de_callTy c_int rfl T.n_int (by decide +kernel) (dos_cons (do_m (de_ix o_ix (do_m (de_v 0)) (do_m (de_v 1)))) dos_nil))) dos_nil)))) dss_nil)
  (dss_one (ds_ret de_int)))
theorem ok__law_cell (T : Txt P K mg a) {k : Nat} : FnOk P w K mg base (L2.CX P w) (k + 1) a.f__law_cell a.d__law_cell ["_law_script", "_law_k"] (spOf K 2 m__law_cell) := fn_ok T.F__law_cell sc__law_cell rfl (fun cdv A outer s H E hcd hr tk hp => d__law_cell T hcd hr tk hp) is__law_cell

theorem sc__law_draws : FnScope N__law_draws ["_law_cell_here", "_law_count_here"] (defScope st__law_draws) := ⟨rfl, rfl, rfl, by decide +kernel, rfl, by decide +kernel, by decide +kernel⟩
set_option maxHeartbeats 4000000 in
theorem d__law_draws (T : Txt P K mg a) {k : Nat} {cdv : Value} {A : Around} {outer : List Env} {s : Shared} {H : Hp} {E : XK} (hcd : a.d__law_draws.code = cdv) (hr : Room k (A.deeper (envOfC "_law_draws" (defScope st__law_draws) s.heap.objs.size a.f__law_draws cdv))) (tk : Takes (cxOf (L2.CX P w) P w K mg base N__law_draws "_law_draws" (defScope st__law_draws) a.f__law_draws cdv A outer s H E) (fun c d _ H => E c d H))
    (hp : PassesOwn (model P w) (A.deeper (envOfC "_law_draws" (defScope st__law_draws) s.heap.objs.size a.f__law_draws cdv)) (envOfC "_law_draws" (defScope st__law_draws) s.heap.objs.size a.f__law_draws cdv) (cxOf (L2.CX P w) P w K mg base N__law_draws "_law_draws" (defScope st__law_draws) a.f__law_draws cdv A outer s H E).xe) :
    DSs (cxOf (L2.CX P w) P w K mg base N__law_draws "_law_draws" (defScope st__law_draws) a.f__law_draws cdv A outer s H E) (fun c d _ H => E c d H) mask__law_draws (defBody st__law_draws) (b__law_draws) :=
  have sc := sc__law_draws
  (dss_cons (ds_set (i := 2) sc.nd rfl (by first | exact Or.inl rfl | exact Or.inr rfl) (de_lst da_nil))
  (dss_cons (ds_set (i := 3) sc.nd rfl (by first | exact Or.inl rfl | exact Or.inr rfl) (de_v 0))
  (dss_cons (ds_for hp rfl (di_r1 rfl T.n_range (da_cons (de_v 1) da_nil)) (dg_name sc.nd rfl (by first | exact Or.inl rfl | exact Or.inr rfl)) (dss_one (ds_if (dt_w (dw_and (dt_cmp o_ge (do_m (de_v 0)) (do_m (de_op o_pow (do_m de_int) (do_m de_int)))) (dw_and1 (dt_cmp o_gt (do_m (de_v 3)) (do_m de_int))))) (dss_cons (ds_expr (de_mL PySem.F.slot_list_append PySem.F.type_list_append m_append (do_n 2) (dos_cons (do_m (de_op o_mod (do_m (de_callTy c_int rfl T.n_int (by decide +kernel) (dos_cons (do_m (de_v 3)) dos_nil))) (do_m de_int))) dos_nil)))
  (dss_one (ds_set (i := 3) sc.nd rfl (by first | exact Or.inl rfl | exact Or.inr rfl) (de_op o_div (do_m (de_v 3)) (do_m de_int))))) (dss_cons (ds_set (i := 5) sc.nd rfl (by first | exact Or.inl rfl | exact Or.inr rfl) (de_op o_mod (do_m (de_callTy c_int rfl T.n_int (by decide +kernel) (dos_cons (do_m (de_op o_add (do_m (de_op o_mul (do_m (de_v 0)) (do_m de_int))) (do_m (de_op o_mul (do_m (de_op o_add (do_m (de_v 4)) (do_m de_int))) (do_m de_int))))) dos_nil))) (do_m de_int)))
  (dss_cons (ds_set (i := 5) sc.nd rfl (by first | exact Or.inl rfl | exact Or.inr rfl) (de_op o_mod (do_m (de_callTy c_int rfl T.n_int (by decide +kernel) (dos_cons (do_m (de_op o_add (do_m (de_op o_add (do_m (de_op o_mul (do_m (de_v 5)) (do_m (de_v 5)))) (do_m (de_op o_mul (do_m (de_v 5)) (do_m de_int))))) (do_m (de_op o_mul (do_m (de_v 4)) (do_m de_int))))) dos_nil))) (do_m de_int)))
  (dss_cons (ds_set (i := 5) sc.nd rfl (by first | exact Or.inl rfl | exact Or.inr rfl) (de_op o_mod (do_m (de_callTy c_int rfl T.n_int (by decide +kernel) (dos_cons (do_m (de_op o_add (do_m (de_op o_add (do_m (de_op o_mul (do_m (de_v 5)) (do_m (de_v 5)))) (do_m (de_v 0)))) (do_m (de_op o_mul (do_m de_int) (do_m (de_v 4)))))) dos_nil))) (do_m de_int)))
  (dss_one (ds_expr (de_mL PySem.F.slot_list_append PySem.F.type_list_append m_append (do_n 2) (dos_cons (do_m (de_op o_mod (do_m (de_op o_div (do_m (de_v 5)) (do_m de_int))) (do_m de_int))) dos_nil))))))))))
  (dss_one (ds_ret (de_mv 2))))))
theorem ok__law_draws (T : Txt P K mg a) {k : Nat} : FnOk P w K mg base (L2.CX P w) (k + 1) a.f__law_draws a.d__law_draws ["_law_cell_here", "_law_count_here"] (spOf K 2 m__law_draws) := fn_ok T.F__law_draws sc__law_draws rfl (fun cdv A outer s H E hcd hr tk hp => d__law_draws T hcd hr tk hp) is__law_draws

theorem sc__law_fun : FnScope N__law_fun ["_law_draws_here", "_law_at", "_law_many", "_law_deep_here"] (defScope st__law_fun) := ⟨rfl, rfl, rfl, by decide +kernel, rfl, by decide +kernel, by decide +kernel⟩
set_option maxHeartbeats 4000000 in
theorem d__law_fun (T : Txt P K mg a) {k : Nat} {mself : FM} {kself : Nat} (hself : kself ≤ k) (Gself : FnOk P w K mg base (L2.CX P w) kself a.f__law_fun a.d__law_fun ["_law_draws_here", "_law_at", "_law_many", "_law_deep_here"] (spOf K 4 mself)) {cdv : Value} {A : Around} {outer : List Env} {s : Shared} {H : Hp} {E : XK} (hcd : a.d__law_fun.code = cdv) (hr : Room k (A.deeper (envOfC "_law_fun" (defScope st__law_fun) s.heap.objs.size a.f__law_fun cdv))) (tk : Takes (cxOf (L2.CX P w) P w K mg base N__law_fun "_law_fun" (defScope st__law_fun) a.f__law_fun cdv A outer s H E) (fun c d _ H => E c d H))
    (hp : PassesOwn (model P w) (A.deeper (envOfC "_law_fun" (defScope st__law_fun) s.heap.objs.size a.f__law_fun cdv)) (envOfC "_law_fun" (defScope st__law_fun) s.heap.objs.size a.f__law_fun cdv) (cxOf (L2.CX P w) P w K mg base N__law_fun "_law_fun" (defScope st__law_fun) a.f__law_fun cdv A outer s H E).xe) :
    DSs (cxOf (L2.CX P w) P w K mg base N__law_fun "_law_fun" (defScope st__law_fun) a.f__law_fun cdv A outer s H E) (fun c d _ H => E c d H) mask__law_fun (defBody st__law_fun) (b__law_fun mself) :=
  have sc := sc__law_fun
  (dss_cons (ds_set (i := 4) sc.nd rfl (by first | exact Or.inl rfl | exact Or.inr rfl) (de_op o_add (do_m (de_ix o_ix (do_n 0) (do_m (de_op o_mod (do_m (de_v 1)) (do_m (de_callB c_len rfl T.n_len (by decide +kernel) (dos_cons (do_n 0) dos_nil))))))) (do_m (de_op o_mul (do_m de_int) (do_m (de_v 1))))))
  (dss_pc (dss_cons (ds_set (i := 5) sc.nd rfl (by first | exact Or.inl rfl | exact Or.inr rfl) (de_op o_mod (do_m (de_v 4)) (do_m de_int)))
  (dss_pc (dss_cons (ds_if (dt_w (dw_or (dt_cmp o_lt (do_m (de_v 3)) (do_m de_int)) (dw_or1 (dt_cmp o_lt (do_m (de_v 5)) (do_m de_int))))) (dss_cons (ds_if (dt_w (dw_and (dt_cmp (o_eq hr.units) (do_m (de_v 2)) (do_m de_int)) (dw_and1 (dt_cmp (o_eq hr.units) (do_m (de_op o_mod (do_m (de_op o_div (do_m (de_v 4)) (do_m de_int))) (do_m de_int))) (do_m de_int))))) (dss_one (ds_ret (de_tup (da_cons de_str da_nil)))) dss_nil)
  (dss_cons (ds_if (dt_w (dw_and (dt_cmp o_gt (do_m (de_v 2)) (do_m de_int)) (dw_and1 (dt_cmp o_gt (do_m (de_op o_mod (do_m (de_op o_div (do_m (de_v 4)) (do_m de_int))) (do_m de_int))) (do_m de_int))))) (dss_one (ds_ret (de_tup (da_cons de_str (da_cons (de_v 2) (da_cons (de_op o_mod (do_m (de_op o_div (do_m (de_v 4)) (do_m de_int))) (do_m (de_v 2))) da_nil)))))) dss_nil)
  (dss_one (ds_ret (de_tup (da_cons de_str (da_cons (de_v 2) da_nil))))))) dss_nil)
  (dss_pc (dss_cons (ds_if (dt_w (dw_or (dt_cmp o_lt (do_m (de_v 5)) (do_m de_int)) (dw_or1 (dt_w (dw_and (dt_cmp (o_eq hr.units) (do_m (de_v 2)) (do_m de_int)) (dw_and1 (dt_cmp o_lt (do_m (de_v 5)) (do_m de_int)))))))) (dss_cons (ds_set (i := 6) sc.nd rfl (by first | exact Or.inl rfl | exact Or.inr rfl) (de_op o_add (do_m de_int) (do_m (de_op o_mod (do_m (de_op o_div (do_m (de_v 4)) (do_m de_int))) (do_m de_int)))))
  (dss_cons (ds_set (i := 7) sc.nd rfl (by first | exact Or.inl rfl | exact Or.inr rfl) (de_callTy c_tuple rfl T.n_tuple (by decide +kernel) (dos_cons (do_m (de_lc (own := [("_law_k", 8)]) (mask := [true, true, true, true, true, true, true, true, false]) rfl sc.nd (di_r1 rfl T.n_range (da_cons (de_v 6) da_nil)) (blkOk_by (N := N__law_fun) rfl) (fun _ _ _ _ _ => (dg_name sc.nd rfl (by first | exact Or.inl rfl | exact Or.inr rfl))) (fun _ _ _ _ _ => dts_nil) (fun _ _ _ _ _ => (de_call Gself takes0 (hr.mono (by omega)) rfl T.m__law_fun T.F__law_fun.kp T.b__law_fun (dos_cons (do_n 0) (dos_cons (do_m (de_op o_add (do_m (de_op o_add (do_m (de_op o_mul (do_m de_int) (do_m (de_v 1)))) (do_m de_int))) (do_m (de_v 8)))) (dos_cons (do_m (de_v 2)) (dos_cons (do_m (de_op o_sub (do_m (de_v 3)) (do_m de_int))) dos_nil)))))))) dos_nil)))
  (dss_one (ds_ret (de_tup (da_cons de_str (da_cons (de_call Gself tk (hr.mono (by omega)) rfl T.m__law_fun T.F__law_fun.kp T.b__law_fun (dos_cons (do_n 0) (dos_cons (do_m (de_op o_add (do_m (de_op o_mul (do_m de_int) (do_m (de_v 1)))) (do_m de_int))) (dos_cons (do_m (de_v 6)) (dos_cons (do_m (de_op o_sub (do_m (de_v 3)) (do_m de_int))) dos_nil))))) (da_cons (de_v 7) da_nil)))))))) dss_nil)
  (dss_pc (dss_cons (ds_if (dt_w (dw_and (dt_cmp o_lt (do_m (de_v 5)) (do_m de_int)) (dw_and1 (dt_cmp o_gt (do_m (de_v 2)) (do_m de_int))))) (dss_one (ds_ret (de_tup (da_cons de_str (da_cons (de_call Gself tk (hr.mono (by omega)) rfl T.m__law_fun T.F__law_fun.kp T.b__law_fun (dos_cons (do_n 0) (dos_cons (do_m (de_op o_add (do_m (de_op o_mul (do_m de_int) (do_m (de_v 1)))) (do_m de_int))) (dos_cons (do_m (de_op o_sub (do_m (de_v 2)) (do_m de_int))) (dos_cons (do_m (de_op o_sub (do_m (de_v 3)) (do_m de_int))) dos_nil))))) (da_cons (de_call Gself tk (hr.mono (by omega)) rfl T.m__law_fun T.F__law_fun.kp T.b__law_fun (dos_cons (do_n 0) (dos_cons (do_m (de_op o_add (do_m (de_op o_mul (do_m de_int) (do_m (de_v 1)))) (do_m de_int))) (dos_cons (do_m (de_op o_add (do_m (de_v 2)) (do_m de_int))) (dos_cons (do_m (de_op o_sub (do_m (de_v 3)) (do_m de_int))) dos_nil))))) da_nil)))))) dss_nil)
  (dss_pc (dss_one (ds_ret (de_tup (da_cons de_str (da_cons (de_call Gself tk (hr.mono (by omega)) rfl T.m__law_fun T.F__law_fun.kp T.b__law_fun (dos_cons (do_n 0) (dos_cons (do_m (de_op o_add (do_m (de_op o_mul (do_m de_int) (do_m (de_v 1)))) (do_m de_int))) (dos_cons (do_m (de_op o_add (do_m (de_v 2)) (do_m de_int))) (dos_cons (do_m (de_op o_sub (do_m (de_v 3)) (do_m de_int))) dos_nil))))) da_nil)))))))))))))))
theorem ok__law_fun (T : Txt P K mg a) {k : Nat} : ∀ n : Nat, FnOk P w K mg base (L2.CX P w) (k + 1 + n) a.f__law_fun a.d__law_fun ["_law_draws_here", "_law_at", "_law_many", "_law_deep_here"] (spOf K 4 (m__law_fun n))
  | 0 => fn_false fun ms R XR h => by unfold m__law_fun at h; exact h
  | n + 1 => (fn_ok (k := k + 1 + n + 0) T.F__law_fun sc__law_fun rfl (fun cdv A outer s H E hcd hr tk hp => d__law_fun (k := k + 1 + n + 0) T (kself := k + 1 + n) (by omega) (ok__law_fun T n) hcd hr tk hp) (is__law_fun n)).mono (by omega)

theorem sc__law_pieces : FnScope N__law_pieces ["_law_thing"] (defScope st__law_pieces) := ⟨rfl, rfl, rfl, by decide +kernel, rfl, by decide +kernel, by decide +kernel⟩
set_option maxHeartbeats 4000000 in
theorem d__law_pieces (T : Txt P K mg a) {k : Nat} {cdv : Value} {A : Around} {outer : List Env} {s : Shared} {H : Hp} {E : XK} (hcd : a.d__law_pieces.code = cdv) (hr : Room k (A.deeper (envOfC "_law_pieces" (defScope st__law_pieces) s.heap.objs.size a.f__law_pieces cdv))) (tk : Takes (cxOf (L2.CX P w) P w K mg base N__law_pieces "_law_pieces" (defScope st__law_pieces) a.f__law_pieces cdv A outer s H E) (fun c d _ H => E c d H))
    (hp : PassesOwn (model P w) (A.deeper (envOfC "_law_pieces" (defScope st__law_pieces) s.heap.objs.size a.f__law_pieces cdv)) (envOfC "_law_pieces" (defScope st__law_pieces) s.heap.objs.size a.f__law_pieces cdv) (cxOf (L2.CX P w) P w K mg base N__law_pieces "_law_pieces" (defScope st__law_pieces) a.f__law_pieces cdv A outer s H E).xe) :
    DSs (cxOf (L2.CX P w) P w K mg base N__law_pieces "_law_pieces" (defScope st__law_pieces) a.f__law_pieces cdv A outer s H E) (fun c d _ H => E c d H) mask__law_pieces (defBody st__law_pieces) (b__law_pieces) :=
  have sc := sc__law_pieces
  (dss_cons (ds_if (dt_cmp (o_eq hr.units) (do_m (de_ix o_ix (do_m (de_v 0)) (do_m de_int))) (do_m de_str)) (dss_one (ds_ret (de_op o_add (do_m (de_lst (da_cons (de_ix o_ix (do_m (de_v 0)) (do_m de_int)) da_nil))) (do_m (de_callTy c_list rfl T.n_list (by decide +kernel) (dos_cons (do_m (de_ix o_ix (do_m (de_v 0)) (do_m de_int))) dos_nil)))))) dss_nil)
  (dss_cons (ds_if (dt_cmp (o_in hr.units) (do_m (de_ix o_ix (do_m (de_v 0)) (do_m de_int))) (do_m (de_tup (da_cons de_str (da_cons de_str da_nil))))) (dss_one (ds_ret (de_callTy c_list rfl T.n_list (by decide +kernel) (dos_cons (do_m (de_sl (do_m (de_v 0)) (dp_some de_int) dp_none)) dos_nil)))) dss_nil)
  (dss_one (ds_ret (de_lst da_nil)))))
theorem ok__law_pieces (T : Txt P K mg a) {k : Nat} : FnOk P w K mg base (L2.CX P w) (k + 1) a.f__law_pieces a.d__law_pieces ["_law_thing"] (spOf K 1 m__law_pieces) := fn_ok T.F__law_pieces sc__law_pieces rfl (fun cdv A outer s H E hcd hr tk hp => d__law_pieces T hcd hr tk hp) is__law_pieces

theorem sc__law_deep : FnScope N__law_deep ["_law_thing"] (defScope st__law_deep) := ⟨rfl, rfl, rfl, by decide +kernel, rfl, by decide +kernel, by decide +kernel⟩
set_option maxHeartbeats 4000000 in
theorem d__law_deep (T : Txt P K mg a) {k : Nat} {k__law_pieces : Nat} (h__law_pieces : k__law_pieces ≤ k) (G__law_pieces : FnOk P w K mg base (L2.CX P w) k__law_pieces a.f__law_pieces a.d__law_pieces ["_law_thing"] (spOf K 1 m__law_pieces)) {mself : FM} {kself : Nat} (hself : kself ≤ k) (Gself : FnOk P w K mg base (L2.CX P w) kself a.f__law_deep a.d__law_deep ["_law_thing"] (spOf K 1 mself)) {cdv : Value} {A : Around} {outer : List Env} {s : Shared} {H : Hp} {E : XK} (hcd : a.d__law_deep.code = cdv) (hr : Room k (A.deeper (envOfC "_law_deep" (defScope st__law_deep) s.heap.objs.size a.f__law_deep cdv))) (tk : Takes (cxOf (L2.CX P w) P w K mg base N__law_deep "_law_deep" (defScope st__law_deep) a.f__law_deep cdv A outer s H E) (fun c d _ H => E c d H))
    (hp : PassesOwn (model P w) (A.deeper (envOfC "_law_deep" (defScope st__law_deep) s.heap.objs.size a.f__law_deep cdv)) (envOfC "_law_deep" (defScope st__law_deep) s.heap.objs.size a.f__law_deep cdv) (cxOf (L2.CX P w) P w K mg base N__law_deep "_law_deep" (defScope st__law_deep) a.f__law_deep cdv A outer s H E).xe) :
    DSs (cxOf (L2.CX P w) P w K mg base N__law_deep "_law_deep" (defScope st__law_deep) a.f__law_deep cdv A outer s H E) (fun c d _ H => E c d H) mask__law_deep (defBody st__law_deep) (b__law_deep mself) :=
  have sc := sc__law_deep
  (dss_cons (ds_set (i := 1) sc.nd rfl (by first | exact Or.inl rfl | exact Or.inr rfl) de_int)
  (dss_cons (ds_for hp rfl (di_val (de_call G__law_pieces tk (hr.mono (by omega)) rfl T.m__law_pieces T.F__law_pieces.kp T.b__law_pieces (dos_cons (do_m (de_v 0)) dos_nil))) (dg_name sc.nd rfl (by first | exact Or.inl rfl | exact Or.inr rfl)) (dss_one (ds_set (i := 1) sc.nd rfl (by first | exact Or.inl rfl | exact Or.inr rfl) (de_callB (c_max rfl) rfl T.n_max (by decide +kernel) (dos_cons (do_m (de_v 1)) (dos_cons (do_m (de_call Gself tk (hr.mono (by omega)) rfl T.m__law_deep T.F__law_deep.kp T.b__law_deep (dos_cons (do_m (de_v 2)) dos_nil))) dos_nil))))))
  (dss_one (ds_ret (de_op o_add (do_m (de_v 1)) (do_m de_int))))))
theorem ok__law_deep (T : Txt P K mg a) {k : Nat} {k__law_pieces : Nat} (h__law_pieces : k__law_pieces ≤ k) (G__law_pieces : FnOk P w K mg base (L2.CX P w) k__law_pieces a.f__law_pieces a.d__law_pieces ["_law_thing"] (spOf K 1 m__law_pieces)) : ∀ n : Nat, FnOk P w K mg base (L2.CX P w) (k + 1 + n) a.f__law_deep a.d__law_deep ["_law_thing"] (spOf K 1 (m__law_deep n))
  | 0 => fn_false fun ms R XR h => by unfold m__law_deep at h; exact h
  | n + 1 => (fn_ok (k := k + 1 + n + 0) T.F__law_deep sc__law_deep rfl (fun cdv A outer s H E hcd hr tk hp => d__law_deep (k := k + 1 + n + 0) T (Nat.le_trans h__law_pieces (by omega)) G__law_pieces (kself := k + 1 + n) (by omega) (ok__law_deep T h__law_pieces G__law_pieces n) hcd hr tk hp) (is__law_deep n)).mono (by omega)

theorem sc__law_count : FnScope N__law_count ["_law_thing"] (defScope st__law_count) := ⟨rfl, rfl, rfl, by decide +kernel, rfl, by decide +kernel, by decide +kernel⟩
set_option maxHeartbeats 4000000 in
theorem d__law_count (T : Txt P K mg a) {k : Nat} {k__law_pieces : Nat} (h__law_pieces : k__law_pieces ≤ k) (G__law_pieces : FnOk P w K mg base (L2.CX P w) k__law_pieces a.f__law_pieces a.d__law_pieces ["_law_thing"] (spOf K 1 m__law_pieces)) {mself : FM} {kself : Nat} (hself : kself ≤ k) (Gself : FnOk P w K mg base (L2.CX P w) kself a.f__law_count a.d__law_count ["_law_thing"] (spOf K 1 mself)) {cdv : Value} {A : Around} {outer : List Env} {s : Shared} {H : Hp} {E : XK} (hcd : a.d__law_count.code = cdv) (hr : Room k (A.deeper (envOfC "_law_count" (defScope st__law_count) s.heap.objs.size a.f__law_count cdv))) (tk : Takes (cxOf (L2.CX P w) P w K mg base N__law_count "_law_count" (defScope st__law_count) a.f__law_count cdv A outer s H E) (fun c d _ H => E c d H))
    (hp : PassesOwn (model P w) (A.deeper (envOfC "_law_count" (defScope st__law_count) s.heap.objs.size a.f__law_count cdv)) (envOfC "_law_count" (defScope st__law_count) s.heap.objs.size a.f__law_count cdv) (cxOf (L2.CX P w) P w K mg base N__law_count "_law_count" (defScope st__law_count) a.f__law_count cdv A outer s H E).xe) :
    DSs (cxOf (L2.CX P w) P w K mg base N__law_count "_law_count" (defScope st__law_count) a.f__law_count cdv A outer s H E) (fun c d _ H => E c d H) mask__law_count (defBody st__law_count) (b__law_count mself) :=
  have sc := sc__law_count
  (dss_cons (ds_set (i := 1) sc.nd rfl (by first | exact Or.inl rfl | exact Or.inr rfl) de_int)
  (dss_cons (ds_for hp rfl (di_val (de_call G__law_pieces tk (hr.mono (by omega)) rfl T.m__law_pieces T.F__law_pieces.kp T.b__law_pieces (dos_cons (do_m (de_v 0)) dos_nil))) (dg_name sc.nd rfl (by first | exact Or.inl rfl | exact Or.inr rfl)) (dss_one (ds_set (i := 1) sc.nd rfl (by first | exact Or.inl rfl | exact Or.inr rfl) (de_op o_add (do_m (de_v 1)) (do_m (de_call Gself tk (hr.mono (by omega)) rfl T.m__law_count T.F__law_count.kp T.b__law_count (dos_cons (do_m (de_v 2)) dos_nil)))))))
  (dss_one (ds_ret (de_v 1)))))
theorem ok__law_count (T : Txt P K mg a) {k : Nat} {k__law_pieces : Nat} (h__law_pieces : k__law_pieces ≤ k) (G__law_pieces : FnOk P w K mg base (L2.CX P w) k__law_pieces a.f__law_pieces a.d__law_pieces ["_law_thing"] (spOf K 1 m__law_pieces)) : ∀ n : Nat, FnOk P w K mg base (L2.CX P w) (k + 1 + n) a.f__law_count a.d__law_count ["_law_thing"] (spOf K 1 (m__law_count n))
  | 0 => fn_false fun ms R XR h => by unfold m__law_count at h; exact h
  | n + 1 => (fn_ok (k := k + 1 + n + 0) T.F__law_count sc__law_count rfl (fun cdv A outer s H E hcd hr tk hp => d__law_count (k := k + 1 + n + 0) T (Nat.le_trans h__law_pieces (by omega)) G__law_pieces (kself := k + 1 + n) (by omega) (ok__law_count T h__law_pieces G__law_pieces n) hcd hr tk hp) (is__law_count n)).mono (by omega)

theorem sc__law_arity : FnScope N__law_arity ["_law_thing"] (defScope st__law_arity) := ⟨rfl, rfl, rfl, by decide +kernel, rfl, by decide +kernel, by decide +kernel⟩
set_option maxHeartbeats 4000000 in
theorem d__law_arity (T : Txt P K mg a) {k : Nat} {mself : FM} {kself : Nat} (hself : kself ≤ k) (Gself : FnOk P w K mg base (L2.CX P w) kself a.f__law_arity a.d__law_arity ["_law_thing"] (spOf K 1 mself)) {cdv : Value} {A : Around} {outer : List Env} {s : Shared} {H : Hp} {E : XK} (hcd : a.d__law_arity.code = cdv) (hr : Room k (A.deeper (envOfC "_law_arity" (defScope st__law_arity) s.heap.objs.size a.f__law_arity cdv))) (tk : Takes (cxOf (L2.CX P w) P w K mg base N__law_arity "_law_arity" (defScope st__law_arity) a.f__law_arity cdv A outer s H E) (fun c d _ H => E c d H))
    (hp : PassesOwn (model P w) (A.deeper (envOfC "_law_arity" (defScope st__law_arity) s.heap.objs.size a.f__law_arity cdv)) (envOfC "_law_arity" (defScope st__law_arity) s.heap.objs.size a.f__law_arity cdv) (cxOf (L2.CX P w) P w K mg base N__law_arity "_law_arity" (defScope st__law_arity) a.f__law_arity cdv A outer s H E).xe) :
    DSs (cxOf (L2.CX P w) P w K mg base N__law_arity "_law_arity" (defScope st__law_arity) a.f__law_arity cdv A outer s H E) (fun c d _ H => E c d H) mask__law_arity (defBody st__law_arity) (b__law_arity mself) :=
  have sc := sc__law_arity
  (dss_cons (ds_set (i := 1) sc.nd rfl (by first | exact Or.inl rfl | exact Or.inr rfl) (de_ix o_ix (do_m (de_v 0)) (do_m de_int)))
  (dss_pc (dss_cons (ds_if (dt_cmp (o_in hr.units) (do_m (de_v 1)) (do_m (de_tup (da_cons de_str (da_cons de_str da_nil))))) (dss_one (ds_ret (de_ix o_ix (do_m (de_v 0)) (do_m de_int)))) dss_nil)
  (dss_pc (dss_cons (ds_if (dt_cmp (o_eq hr.units) (do_m (de_v 1)) (do_m de_str)) (dss_one (ds_ret de_int)) dss_nil)
  (dss_pc (dss_cons (ds_if (dt_cmp (o_eq hr.units) (do_m (de_v 1)) (do_m de_str)) (dss_cons (ds_if (dt_cmp (o_eq hr.units) (do_m (de_callB c_len rfl T.n_len (by decide +kernel) (dos_cons (do_m (de_ix o_ix (do_m (de_v 0)) (do_m de_int))) dos_nil))) (do_m de_int)) (dss_one (ds_ret (de_un o_neg (do_m de_int)))) dss_nil)
  (dss_one (ds_ret (de_call Gself tk (hr.mono (by omega)) rfl T.m__law_arity T.F__law_arity.kp T.b__law_arity (dos_cons (do_m (de_ix o_ix (do_m (de_ix o_ix (do_m (de_v 0)) (do_m de_int))) (do_m de_int))) dos_nil))))) dss_nil)
  (dss_pc (dss_cons (ds_if (dt_cmp (o_eq hr.units) (do_m (de_v 1)) (do_m de_str)) (dss_one (ds_ret (de_op o_add (do_m (de_call Gself tk (hr.mono (by omega)) rfl T.m__law_arity T.F__law_arity.kp T.b__law_arity (dos_cons (do_m (de_ix o_ix (do_m (de_v 0)) (do_m de_int))) dos_nil))) (do_m de_int)))) dss_nil)
  (dss_pc (dss_one (ds_ret (de_op o_sub (do_m (de_call Gself tk (hr.mono (by omega)) rfl T.m__law_arity T.F__law_arity.kp T.b__law_arity (dos_cons (do_m (de_ix o_ix (do_m (de_v 0)) (do_m de_int))) dos_nil))) (do_m de_int))))))))))))))
theorem ok__law_arity (T : Txt P K mg a) {k : Nat} : ∀ n : Nat, FnOk P w K mg base (L2.CX P w) (k + 1 + n) a.f__law_arity a.d__law_arity ["_law_thing"] (spOf K 1 (m__law_arity n))
  | 0 => fn_false fun ms R XR h => by unfold m__law_arity at h; exact h
  | n + 1 => (fn_ok (k := k + 1 + n + 0) T.F__law_arity sc__law_arity rfl (fun cdv A outer s H E hcd hr tk hp => d__law_arity (k := k + 1 + n + 0) T (kself := k + 1 + n) (by omega) (ok__law_arity T n) hcd hr tk hp) (is__law_arity n)).mono (by omega)

theorem sc__law_fits_well : FnScope N__law_fits_well ["_law_thing"] (defScope st__law_fits_well) := ⟨rfl, rfl, rfl, by decide +kernel, rfl, by decide +kernel, by decide +kernel⟩
set_option maxHeartbeats 4000000 in
theorem d__law_fits_well (T : Txt P K mg a) {k : Nat} {k__law_pieces : Nat} (h__law_pieces : k__law_pieces ≤ k) (G__law_pieces : FnOk P w K mg base (L2.CX P w) k__law_pieces a.f__law_pieces a.d__law_pieces ["_law_thing"] (spOf K 1 m__law_pieces)) {k__law_arity : Nat} (h__law_arity : k__law_arity ≤ k) (G__law_arity : FnOk P w K mg base (L2.CX P w) k__law_arity a.f__law_arity a.d__law_arity ["_law_thing"] (spOf K 1 (m__law_arity 18))) {mself : FM} {kself : Nat} (hself : kself ≤ k) (Gself : FnOk P w K mg base (L2.CX P w) kself a.f__law_fits_well a.d__law_fits_well ["_law_thing"] (spOf K 1 mself)) {cdv : Value} {A : Around} {outer : List Env} {s : Shared} {H : Hp} {E : XK} (hcd : a.d__law_fits_well.code = cdv) (hr : Room k (A.deeper (envOfC "_law_fits_well" (defScope st__law_fits_well) s.heap.objs.size a.f__law_fits_well cdv))) (tk : Takes (cxOf (L2.CX P w) P w K mg base N__law_fits_well "_law_fits_well" (defScope st__law_fits_well) a.f__law_fits_well cdv A outer s H E) (fun c d _ H => E c d H))
    (hp : PassesOwn (model P w) (A.deeper (envOfC "_law_fits_well" (defScope st__law_fits_well) s.heap.objs.size a.f__law_fits_well cdv)) (envOfC "_law_fits_well" (defScope st__law_fits_well) s.heap.objs.size a.f__law_fits_well cdv) (cxOf (L2.CX P w) P w K mg base N__law_fits_well "_law_fits_well" (defScope st__law_fits_well) a.f__law_fits_well cdv A outer s H E).xe) :
    DSs (cxOf (L2.CX P w) P w K mg base N__law_fits_well "_law_fits_well" (defScope st__law_fits_well) a.f__law_fits_well cdv A outer s H E) (fun c d _ H => E c d H) mask__law_fits_well (defBody st__law_fits_well) (b__law_fits_well mself) :=
  have sc := sc__law_fits_well
  (dss_cons (ds_set (i := 1) sc.nd rfl (by first | exact Or.inl rfl | exact Or.inr rfl) (de_ix o_ix (do_m (de_v 0)) (do_m de_int)))
  (dss_pc (dss_cons (ds_if (dt_cmp (o_eq hr.units) (do_m (de_v 1)) (do_m de_str)) (dss_one (ds_ret (de_and (de_cmp o_le (do_m de_int) (do_m (de_ix o_ix (do_m (de_v 0)) (do_m de_int)))) (de_one (de_cmp o_le (do_m (de_ix o_ix (do_m (de_v 0)) (do_m de_int))) (do_m de_int)))))) dss_nil)
  (dss_pc (dss_cons (ds_if (dt_cmp (o_eq hr.units) (do_m (de_v 1)) (do_m de_str)) (dss_one (ds_ret (de_and (de_cmp o_le (do_m de_int) (do_m (de_ix o_ix (do_m (de_v 0)) (do_m de_int)))) (de_and (de_cmp o_le (do_m (de_ix o_ix (do_m (de_v 0)) (do_m de_int))) (do_m de_int)) (de_and (de_cmp o_le (do_m de_int) (do_m (de_ix o_ix (do_m (de_v 0)) (do_m de_int)))) (de_one (de_cmp o_lt (do_m (de_ix o_ix (do_m (de_v 0)) (do_m de_int))) (do_m (de_ix o_ix (do_m (de_v 0)) (do_m de_int)))))))))) dss_nil)
  (dss_pc (dss_cons (ds_if (dt_cmp (o_eq hr.units) (do_m (de_v 1)) (do_m de_str)) (dss_one (ds_ret de_bl)) dss_nil)
  (dss_pc (dss_cons (ds_for hp rfl (di_val (de_call G__law_pieces tk (hr.mono (by omega)) rfl T.m__law_pieces T.F__law_pieces.kp T.b__law_pieces (dos_cons (do_m (de_v 0)) dos_nil))) (dg_name sc.nd rfl (by first | exact Or.inl rfl | exact Or.inr rfl)) (dss_one (ds_if (dt_not (dt_of (de_call Gself tk (hr.mono (by omega)) rfl T.m__law_fits_well T.F__law_fits_well.kp T.b__law_fits_well (dos_cons (do_m (de_v 2)) dos_nil)))) (dss_one (ds_ret de_bl)) dss_nil)))
  (dss_pc (dss_cons (ds_if (dt_cmp (o_eq hr.units) (do_m (de_v 1)) (do_m de_str)) (dss_cons (ds_if (dt_w (dw_or (dt_cmp (o_eq hr.units) (do_m (de_callB c_len rfl T.n_len (by decide +kernel) (dos_cons (do_m (de_ix o_ix (do_m (de_v 0)) (do_m de_int))) dos_nil))) (do_m de_int)) (dw_or1 (dt_cmp (o_ne hr.units) (do_m (de_call G__law_arity tk (hr.mono (by omega)) rfl T.m__law_arity T.F__law_arity.kp T.b__law_arity (dos_cons (do_m (de_ix o_ix (do_m (de_v 0)) (do_m de_int))) dos_nil))) (do_m (de_callB c_len rfl T.n_len (by decide +kernel) (dos_cons (do_m (de_ix o_ix (do_m (de_v 0)) (do_m de_int))) dos_nil))))))) (dss_one (ds_ret de_bl)) dss_nil)
  (dss_one (ds_ret (de_cmp (o_eq hr.units) (do_m (de_callB c_len rfl T.n_len (by decide +kernel) (dos_cons (do_m (de_lc (own := [("_law_part", 2)]) (mask := [true, true, false]) rfl sc.nd (di_val (de_ix o_ix (do_m (de_v 0)) (do_m de_int))) (blkOk_by (N := N__law_fits_well) rfl) (fun _ _ _ _ _ => (dg_name sc.nd rfl (by first | exact Or.inl rfl | exact Or.inr rfl))) (fun _ _ _ _ _ => (dts_one (dt_cmp (o_ne hr.units) (do_m (de_call G__law_arity takes0 (hr.mono (by omega)) rfl T.m__law_arity T.F__law_arity.kp T.b__law_arity (dos_cons (do_m (de_v 2)) dos_nil))) (do_m (de_call G__law_arity takes0 (hr.mono (by omega)) rfl T.m__law_arity T.F__law_arity.kp T.b__law_arity (dos_cons (do_m (de_ix o_ix (do_m (de_ix o_ix (do_m (de_v 0)) (do_m de_int))) (do_m de_int))) dos_nil)))))) (fun _ _ _ _ _ => (de_v 2)))) dos_nil))) (do_m de_int))))) dss_nil)
  (dss_pc (dss_cons (ds_if (dt_cmp (o_eq hr.units) (do_m (de_v 1)) (do_m de_str)) (dss_one (ds_ret (de_and (de_cmp o_le (do_m (de_call G__law_arity tk (hr.mono (by omega)) rfl T.m__law_arity T.F__law_arity.kp T.b__law_arity (dos_cons (do_m (de_ix o_ix (do_m (de_v 0)) (do_m de_int))) dos_nil))) (do_m de_int)) (de_one (de_cmp (o_eq hr.units) (do_m (de_call G__law_arity tk (hr.mono (by omega)) rfl T.m__law_arity T.F__law_arity.kp T.b__law_arity (dos_cons (do_m (de_ix o_ix (do_m (de_v 0)) (do_m de_int))) dos_nil))) (do_m (de_op o_add (do_m (de_call G__law_arity tk (hr.mono (by omega)) rfl T.m__law_arity T.F__law_arity.kp T.b__law_arity (dos_cons (do_m (de_ix o_ix (do_m (de_v 0)) (do_m de_int))) dos_nil))) (do_m de_int)))))))) dss_nil)
  (dss_pc (dss_one (ds_ret (de_cmp o_ge (do_m (de_call G__law_arity tk (hr.mono (by omega)) rfl T.m__law_arity T.F__law_arity.kp T.b__law_arity (dos_cons (do_m (de_ix o_ix (do_m (de_v 0)) (do_m de_int))) dos_nil))) (do_m de_int))))))))))))))))))
theorem ok__law_fits_well (T : Txt P K mg a) {k : Nat} {k__law_pieces : Nat} (h__law_pieces : k__law_pieces ≤ k) (G__law_pieces : FnOk P w K mg base (L2.CX P w) k__law_pieces a.f__law_pieces a.d__law_pieces ["_law_thing"] (spOf K 1 m__law_pieces)) {k__law_arity : Nat} (h__law_arity : k__law_arity ≤ k) (G__law_arity : FnOk P w K mg base (L2.CX P w) k__law_arity a.f__law_arity a.d__law_arity ["_law_thing"] (spOf K 1 (m__law_arity 18))) : ∀ n : Nat, FnOk P w K mg base (L2.CX P w) (k + 1 + n) a.f__law_fits_well a.d__law_fits_well ["_law_thing"] (spOf K 1 (m__law_fits_well n))
  | 0 => fn_false fun ms R XR h => by unfold m__law_fits_well at h; exact h
  | n + 1 => (fn_ok (k := k + 1 + n + 0) T.F__law_fits_well sc__law_fits_well rfl (fun cdv A outer s H E hcd hr tk hp => d__law_fits_well (k := k + 1 + n + 0) T (Nat.le_trans h__law_pieces (by omega)) G__law_pieces (Nat.le_trans h__law_arity (by omega)) G__law_arity (kself := k + 1 + n) (by omega) (ok__law_fits_well T h__law_pieces G__law_pieces h__law_arity G__law_arity n) hcd hr tk hp) (is__law_fits_well n)).mono (by omega)

theorem sc__law_is_fun : FnScope N__law_is_fun ["_law_thing"] (defScope st__law_is_fun) := ⟨rfl, rfl, rfl, by decide +kernel, rfl, by decide +kernel, by decide +kernel⟩
set_option maxHeartbeats 4000000 in
theorem d__law_is_fun (T : Txt P K mg a) {k : Nat} {k__law_deep : Nat} (h__law_deep : k__law_deep ≤ k) (G__law_deep : FnOk P w K mg base (L2.CX P w) k__law_deep a.f__law_deep a.d__law_deep ["_law_thing"] (spOf K 1 (m__law_deep 18))) {k__law_count : Nat} (h__law_count : k__law_count ≤ k) (G__law_count : FnOk P w K mg base (L2.CX P w) k__law_count a.f__law_count a.d__law_count ["_law_thing"] (spOf K 1 (m__law_count 18))) {k__law_fits_well : Nat} (h__law_fits_well : k__law_fits_well ≤ k) (G__law_fits_well : FnOk P w K mg base (L2.CX P w) k__law_fits_well a.f__law_fits_well a.d__law_fits_well ["_law_thing"] (spOf K 1 (m__law_fits_well 18))) {cdv : Value} {A : Around} {outer : List Env} {s : Shared} {H : Hp} {E : XK} (hcd : a.d__law_is_fun.code = cdv) (hr : Room k (A.deeper (envOfC "_law_is_fun" (defScope st__law_is_fun) s.heap.objs.size a.f__law_is_fun cdv))) (tk : Takes (cxOf (L2.CX P w) P w K mg base N__law_is_fun "_law_is_fun" (defScope st__law_is_fun) a.f__law_is_fun cdv A outer s H E) (fun c d _ H => E c d H))
    (hp : PassesOwn (model P w) (A.deeper (envOfC "_law_is_fun" (defScope st__law_is_fun) s.heap.objs.size a.f__law_is_fun cdv)) (envOfC "_law_is_fun" (defScope st__law_is_fun) s.heap.objs.size a.f__law_is_fun cdv) (cxOf (L2.CX P w) P w K mg base N__law_is_fun "_law_is_fun" (defScope st__law_is_fun) a.f__law_is_fun cdv A outer s H E).xe) :
    DSs (cxOf (L2.CX P w) P w K mg base N__law_is_fun "_law_is_fun" (defScope st__law_is_fun) a.f__law_is_fun cdv A outer s H E) (fun c d _ H => E c d H) mask__law_is_fun (defBody st__law_is_fun) (b__law_is_fun) :=
  have sc := sc__law_is_fun
  (dss_one (ds_ret (de_and (de_cmp o_le (do_m (de_call G__law_deep tk (hr.mono (by omega)) rfl T.m__law_deep T.F__law_deep.kp T.b__law_deep (dos_cons (do_m (de_v 0)) dos_nil))) (do_m de_int)) (de_and (de_cmp o_le (do_m (de_call G__law_count tk (hr.mono (by omega)) rfl T.m__law_count T.F__law_count.kp T.b__law_count (dos_cons (do_m (de_v 0)) dos_nil))) (do_m de_int)) (de_one (de_call G__law_fits_well tk (hr.mono (by omega)) rfl T.m__law_fits_well T.F__law_fits_well.kp T.b__law_fits_well (dos_cons (do_m (de_v 0)) dos_nil)))))))
theorem ok__law_is_fun (T : Txt P K mg a) {k : Nat} {k__law_deep : Nat} (h__law_deep : k__law_deep ≤ k) (G__law_deep : FnOk P w K mg base (L2.CX P w) k__law_deep a.f__law_deep a.d__law_deep ["_law_thing"] (spOf K 1 (m__law_deep 18))) {k__law_count : Nat} (h__law_count : k__law_count ≤ k) (G__law_count : FnOk P w K mg base (L2.CX P w) k__law_count a.f__law_count a.d__law_count ["_law_thing"] (spOf K 1 (m__law_count 18))) {k__law_fits_well : Nat} (h__law_fits_well : k__law_fits_well ≤ k) (G__law_fits_well : FnOk P w K mg base (L2.CX P w) k__law_fits_well a.f__law_fits_well a.d__law_fits_well ["_law_thing"] (spOf K 1 (m__law_fits_well 18))) : FnOk P w K mg base (L2.CX P w) (k + 1) a.f__law_is_fun a.d__law_is_fun ["_law_thing"] (spOf K 1 m__law_is_fun) := fn_ok T.F__law_is_fun sc__law_is_fun rfl (fun cdv A outer s H E hcd hr tk hp => d__law_is_fun T h__law_deep G__law_deep h__law_count G__law_count h__law_fits_well G__law_fits_well hcd hr tk hp) is__law_is_fun

theorem sc__law_apply : FnScope N__law_apply ["_law_thing", "_law_arguments", "_law_left"] (defScope st__law_apply) := ⟨rfl, rfl, rfl, by decide +kernel, rfl, by decide +kernel, by decide +kernel⟩
set_option maxHeartbeats 4000000 in
theorem d__law_apply (T : Txt P K mg a) {k : Nat} {mself : FM} {kself : Nat} (hself : kself ≤ k) (Gself : FnOk P w K mg base (L2.CX P w) kself a.f__law_apply a.d__law_apply ["_law_thing", "_law_arguments", "_law_left"] (spOf K 3 mself)) {cdv : Value} {A : Around} {outer : List Env} {s : Shared} {H : Hp} {E : XK} (hcd : a.d__law_apply.code = cdv) (hr : Room k (A.deeper (envOfC "_law_apply" (defScope st__law_apply) s.heap.objs.size a.f__law_apply cdv))) (tk : Takes (cxOf (L2.CX P w) P w K mg base N__law_apply "_law_apply" (defScope st__law_apply) a.f__law_apply cdv A outer s H E) (fun c d _ H => E c d H))
    (hp : PassesOwn (model P w) (A.deeper (envOfC "_law_apply" (defScope st__law_apply) s.heap.objs.size a.f__law_apply cdv)) (envOfC "_law_apply" (defScope st__law_apply) s.heap.objs.size a.f__law_apply cdv) (cxOf (L2.CX P w) P w K mg base N__law_apply "_law_apply" (defScope st__law_apply) a.f__law_apply cdv A outer s H E).xe) :
    DSs (cxOf (L2.CX P w) P w K mg base N__law_apply "_law_apply" (defScope st__law_apply) a.f__law_apply cdv A outer s H E) (fun c d _ H => E c d H) mask__law_apply (defBody st__law_apply) (b__law_apply mself) :=
  have sc := sc__law_apply
  (dss_cons (ds_if (dt_cmp o_lt (do_m (de_v 2)) (do_m de_int)) (dss_one (ds_ret de_non)) dss_nil)
  (dss_pc (dss_cons (ds_set (i := 2) sc.nd rfl (by first | exact Or.inl rfl | exact Or.inr rfl) (de_op o_sub (do_m (de_v 2)) (do_m de_int)))
  (dss_pc (dss_cons (ds_set (i := 3) sc.nd rfl (by first | exact Or.inl rfl | exact Or.inr rfl) (de_ix o_ix (do_m (de_v 0)) (do_m de_int)))
  (dss_pc (dss_cons (ds_if (dt_cmp (o_eq hr.units) (do_m (de_v 3)) (do_m de_str)) (dss_one (ds_ret (de_lst (da_cons de_int (da_cons (de_v 2) da_nil))))) dss_nil)
  (dss_pc (dss_cons (ds_if (dt_cmp (o_eq hr.units) (do_m (de_v 3)) (do_m de_str)) (dss_one (ds_ret (de_lst (da_cons (de_op o_add (do_m (de_ix o_ix (do_n 1) (do_m de_int))) (do_m de_int)) (da_cons (de_v 2) da_nil))))) dss_nil)
  (dss_pc (dss_cons (ds_if (dt_cmp (o_eq hr.units) (do_m (de_v 3)) (do_m de_str)) (dss_one (ds_ret (de_lst (da_cons (de_ix o_ix (do_n 1) (do_m (de_ix o_ix (do_m (de_v 0)) (do_m de_int)))) (da_cons (de_v 2) da_nil))))) dss_nil)
  (dss_pc (dss_cons (ds_if (dt_cmp (o_eq hr.units) (do_m (de_v 3)) (do_m de_str)) (dss_cons (ds_set (i := 4) sc.nd rfl (by first | exact Or.inl rfl | exact Or.inr rfl) (de_lst da_nil))
  (dss_cons (ds_for hp rfl (di_val (de_ix o_ix (do_m (de_v 0)) (do_m de_int))) (dg_name sc.nd rfl (by first | exact Or.inl rfl | exact Or.inr rfl)) (dss_cons (ds_set (i := 6) sc.nd rfl (by first | exact Or.inl rfl | exact Or.inr rfl) (de_call Gself tk (hr.mono (by omega)) rfl T.m__law_apply T.F__law_apply.kp T.b__law_apply (dos_cons (do_m (de_v 5)) (dos_cons (do_n 1) (dos_cons (do_m (de_v 2)) dos_nil)))))
  (dss_cons (ds_if (dt_cmp o_isN (do_n 6) (do_m de_non) ) (dss_one (ds_ret de_non)) dss_nil)
  (dss_cons (ds_expr (de_mL PySem.F.slot_list_append PySem.F.type_list_append m_append (do_n 4) (dos_cons (do_m (de_ix o_ix (do_n 6) (do_m de_int))) dos_nil)))
  (dss_one (ds_set (i := 2) sc.nd rfl (by first | exact Or.inl rfl | exact Or.inr rfl) (de_ix o_ix (do_n 6) (do_m de_int))))))))
  (dss_one (ds_ret (de_call Gself tk (hr.mono (by omega)) rfl T.m__law_apply T.F__law_apply.kp T.b__law_apply (dos_cons (do_m (de_ix o_ix (do_m (de_v 0)) (do_m de_int))) (dos_cons (do_m (de_callTy c_tuple rfl T.n_tuple (by decide +kernel) (dos_cons (do_n 4) dos_nil))) (dos_cons (do_m (de_v 2)) dos_nil)))))))) dss_nil)
  (dss_pc (dss_cons (ds_if (dt_cmp (o_eq hr.units) (do_m (de_v 3)) (do_m de_str)) (dss_cons (ds_set (i := 6) sc.nd rfl (by first | exact Or.inl rfl | exact Or.inr rfl) (de_call Gself tk (hr.mono (by omega)) rfl T.m__law_apply T.F__law_apply.kp T.b__law_apply (dos_cons (do_m (de_ix o_ix (do_m (de_v 0)) (do_m de_int))) (dos_cons (do_m (de_sl (do_n 1) (dp_some de_int) dp_none)) (dos_cons (do_m (de_v 2)) dos_nil)))))
  (dss_cons (ds_for hp rfl (di_r1 rfl T.n_range (da_cons (de_ix o_ix (do_n 1) (do_m de_int)) da_nil)) (dg_name sc.nd rfl (by first | exact Or.inl rfl | exact Or.inr rfl)) (dss_cons (ds_if (dt_cmp o_isN (do_n 6) (do_m de_non) ) (dss_one (ds_ret de_non)) dss_nil)
  (dss_one (ds_set (i := 6) sc.nd rfl (by first | exact Or.inl rfl | exact Or.inr rfl) (de_call Gself tk (hr.mono (by omega)) rfl T.m__law_apply T.F__law_apply.kp T.b__law_apply (dos_cons (do_m (de_ix o_ix (do_m (de_v 0)) (do_m de_int))) (dos_cons (do_m (de_op o_add (do_m (de_tup (da_cons (de_v 7) (da_cons (de_ix o_ix (do_n 6) (do_m de_int)) da_nil)))) (do_m (de_sl (do_n 1) (dp_some de_int) dp_none)))) (dos_cons (do_m (de_ix o_ix (do_n 6) (do_m de_int))) dos_nil))))))))
  (dss_one (ds_ret (de_mv 6))))) dss_nil)
  (dss_pc (dss_cons (ds_for hp rfl (di_r1 rfl T.n_range (da_cons (de_op o_add (do_m (de_v 2)) (do_m de_int)) da_nil)) (dg_name sc.nd rfl (by first | exact Or.inl rfl | exact Or.inr rfl)) (dss_cons (ds_set (i := 6) sc.nd rfl (by first | exact Or.inl rfl | exact Or.inr rfl) (de_call Gself tk (hr.mono (by omega)) rfl T.m__law_apply T.F__law_apply.kp T.b__law_apply (dos_cons (do_m (de_ix o_ix (do_m (de_v 0)) (do_m de_int))) (dos_cons (do_m (de_op o_add (do_m (de_tup (da_cons (de_v 7) da_nil))) (do_m (de_v 1)))) (dos_cons (do_m (de_v 2)) dos_nil)))))
  (dss_cons (ds_if (dt_cmp o_isN (do_n 6) (do_m de_non) ) (dss_one (ds_ret de_non)) dss_nil)
  (dss_cons (ds_if (dt_cmp (o_eq hr.units) (do_m (de_ix o_ix (do_n 6) (do_m de_int))) (do_m de_int)) (dss_one (ds_ret (de_lst (da_cons (de_v 7) (da_cons (de_ix o_ix (do_n 6) (do_m de_int)) da_nil))))) dss_nil)
  (dss_one (ds_set (i := 2) sc.nd rfl (by first | exact Or.inl rfl | exact Or.inr rfl) (de_ix o_ix (do_n 6) (do_m de_int))))))))
  (dss_pc (dss_one (ds_ret de_non))))))))))))))))))))
theorem ok__law_apply (T : Txt P K mg a) {k : Nat} : ∀ n : Nat, FnOk P w K mg base (L2.CX P w) (k + 1 + n) a.f__law_apply a.d__law_apply ["_law_thing", "_law_arguments", "_law_left"] (spOf K 3 (m__law_apply n))
  | 0 => fn_false fun ms R XR h => by unfold m__law_apply at h; exact h
  | n + 1 => (fn_ok (k := k + 1 + n + 0) T.F__law_apply sc__law_apply rfl (fun cdv A outer s H E hcd hr tk hp => d__law_apply (k := k + 1 + n + 0) T (kself := k + 1 + n) (by omega) (ok__law_apply T n) hcd hr tk hp) (is__law_apply n)).mono (by omega)

theorem sc_parts : FnScope N_parts ["function"] (defScope st_parts) := ⟨rfl, rfl, rfl, by decide +kernel, rfl, by decide +kernel, by decide +kernel⟩
set_option maxHeartbeats 4000000 in
theorem d_parts (T : Txt P K mg a) {k : Nat} {cdv : Value} {A : Around} {outer : List Env} {s : Shared} {H : Hp} {E : XK} (hcd : a.d_parts.code = cdv) (hr : Room k (A.deeper (envOfC "parts" (defScope st_parts) s.heap.objs.size a.f_parts cdv))) (tk : Takes (cxOf (L2.CX P w) P w K mg base N_parts "parts" (defScope st_parts) a.f_parts cdv A outer s H E) (fun c d _ H => E c d H))
    (hp : PassesOwn (model P w) (A.deeper (envOfC "parts" (defScope st_parts) s.heap.objs.size a.f_parts cdv)) (envOfC "parts" (defScope st_parts) s.heap.objs.size a.f_parts cdv) (cxOf (L2.CX P w) P w K mg base N_parts "parts" (defScope st_parts) a.f_parts cdv A outer s H E).xe) :
    DSs (cxOf (L2.CX P w) P w K mg base N_parts "parts" (defScope st_parts) a.f_parts cdv A outer s H E) (fun c d _ H => E c d H) mask_parts (defBody st_parts) (b_parts) :=
  have sc := sc_parts
  (dss_cons (ds_if (dt_cmp (o_eq hr.units) (do_m (de_ix o_ix (do_m (de_v 0)) (do_m de_int))) (do_m de_str)) (dss_one (ds_ret (de_op o_add (do_m (de_lst (da_cons (de_ix o_ix (do_m (de_v 0)) (do_m de_int)) da_nil))) (do_m (de_callTy c_list rfl T.n_list (by decide +kernel) (dos_cons (do_m (de_ix o_ix (do_m (de_v 0)) (do_m de_int))) dos_nil)))))) dss_nil)
  (dss_cons (ds_if (dt_cmp (o_in hr.units) (do_m (de_ix o_ix (do_m (de_v 0)) (do_m de_int))) (do_m (de_tup (da_cons de_str (da_cons de_str da_nil))))) (dss_one (ds_ret (de_callTy c_list rfl T.n_list (by decide +kernel) (dos_cons (do_m (de_sl (do_m (de_v 0)) (dp_some de_int) dp_none)) dos_nil)))) dss_nil)
  (dss_one (ds_ret (de_lst da_nil)))))
theorem ok_parts (T : Txt P K mg a) {k : Nat} : FnOk P w K mg base (L2.CX P w) (k + 1) a.f_parts a.d_parts ["function"] (spOf K 1 m_parts) := fn_ok T.F_parts sc_parts rfl (fun cdv A outer s H E hcd hr tk hp => d_parts T hcd hr tk hp) is_parts

theorem sc_depth : FnScope N_depth ["function"] (defScope st_depth) := ⟨rfl, rfl, rfl, by decide +kernel, rfl, by decide +kernel, by decide +kernel⟩
set_option maxHeartbeats 4000000 in
theorem d_depth (T : Txt P K mg a) {k : Nat} {k_parts : Nat} (h_parts : k_parts ≤ k) (G_parts : FnOk P w K mg base (L2.CX P w) k_parts a.f_parts a.d_parts ["function"] (spOf K 1 m_parts)) {mself : FM} {kself : Nat} (hself : kself ≤ k) (Gself : FnOk P w K mg base (L2.CX P w) kself a.f_depth a.d_depth ["function"] (spOf K 1 mself)) {cdv : Value} {A : Around} {outer : List Env} {s : Shared} {H : Hp} {E : XK} (hcd : a.d_depth.code = cdv) (hr : Room k (A.deeper (envOfC "depth" (defScope st_depth) s.heap.objs.size a.f_depth cdv))) (tk : Takes (cxOf (L2.CX P w) P w K mg base N_depth "depth" (defScope st_depth) a.f_depth cdv A outer s H E) (fun c d _ H => E c d H))
    (hp : PassesOwn (model P w) (A.deeper (envOfC "depth" (defScope st_depth) s.heap.objs.size a.f_depth cdv)) (envOfC "depth" (defScope st_depth) s.heap.objs.size a.f_depth cdv) (cxOf (L2.CX P w) P w K mg base N_depth "depth" (defScope st_depth) a.f_depth cdv A outer s H E).xe) :
    DSs (cxOf (L2.CX P w) P w K mg base N_depth "depth" (defScope st_depth) a.f_depth cdv A outer s H E) (fun c d _ H => E c d H) mask_depth (defBody st_depth) (b_depth mself) :=
  have sc := sc_depth
  (dss_one (ds_ret (de_op o_add (do_m de_int) (do_m (de_maxd rfl rfl T.n_max (by decide +kernel) (dos_cons (do_m (de_lc (own := [("part", 1)]) (mask := [true, false]) rfl sc.nd (di_val (de_call G_parts tk (hr.mono (by omega)) rfl T.m_parts T.F_parts.kp T.b_parts (dos_cons (do_m (de_v 0)) dos_nil))) (blkOk_by (N := N_depth) rfl) (fun _ _ _ _ _ => (dg_name sc.nd rfl (by first | exact Or.inl rfl | exact Or.inr rfl))) (fun _ _ _ _ _ => dts_nil) (fun _ _ _ _ _ => (de_call Gself takes0 (hr.mono (by omega)) rfl T.m_depth T.F_depth.kp T.b_depth (dos_cons (do_m (de_v 1)) dos_nil))))) dos_nil))))))
theorem ok_depth (T : Txt P K mg a) {k : Nat} {k_parts : Nat} (h_parts : k_parts ≤ k) (G_parts : FnOk P w K mg base (L2.CX P w) k_parts a.f_parts a.d_parts ["function"] (spOf K 1 m_parts)) : ∀ n : Nat, FnOk P w K mg base (L2.CX P w) (k + 1 + n) a.f_depth a.d_depth ["function"] (spOf K 1 (m_depth n))
  | 0 => fn_false fun ms R XR h => by unfold m_depth at h; exact h
  | n + 1 => (fn_ok (k := k + 1 + n + 0) T.F_depth sc_depth rfl (fun cdv A outer s H E hcd hr tk hp => d_depth (k := k + 1 + n + 0) T (Nat.le_trans h_parts (by omega)) G_parts (kself := k + 1 + n) (by omega) (ok_depth T h_parts G_parts n) hcd hr tk hp) (is_depth n)).mono (by omega)

theorem sc_count_parts : FnScope N_count_parts ["function"] (defScope st_count_parts) := ⟨rfl, rfl, rfl, by decide +kernel, rfl, by decide +kernel, by decide +kernel⟩
set_option maxHeartbeats 4000000 in
theorem d_count_parts (T : Txt P K mg a) {k : Nat} {k_parts : Nat} (h_parts : k_parts ≤ k) (G_parts : FnOk P w K mg base (L2.CX P w) k_parts a.f_parts a.d_parts ["function"] (spOf K 1 m_parts)) {mself : FM} {kself : Nat} (hself : kself ≤ k) (Gself : FnOk P w K mg base (L2.CX P w) kself a.f_count_parts a.d_count_parts ["function"] (spOf K 1 mself)) {cdv : Value} {A : Around} {outer : List Env} {s : Shared} {H : Hp} {E : XK} (hcd : a.d_count_parts.code = cdv) (hr : Room k (A.deeper (envOfC "count_parts" (defScope st_count_parts) s.heap.objs.size a.f_count_parts cdv))) (tk : Takes (cxOf (L2.CX P w) P w K mg base N_count_parts "count_parts" (defScope st_count_parts) a.f_count_parts cdv A outer s H E) (fun c d _ H => E c d H))
    (hp : PassesOwn (model P w) (A.deeper (envOfC "count_parts" (defScope st_count_parts) s.heap.objs.size a.f_count_parts cdv)) (envOfC "count_parts" (defScope st_count_parts) s.heap.objs.size a.f_count_parts cdv) (cxOf (L2.CX P w) P w K mg base N_count_parts "count_parts" (defScope st_count_parts) a.f_count_parts cdv A outer s H E).xe) :
    DSs (cxOf (L2.CX P w) P w K mg base N_count_parts "count_parts" (defScope st_count_parts) a.f_count_parts cdv A outer s H E) (fun c d _ H => E c d H) mask_count_parts (defBody st_count_parts) (b_count_parts mself) :=
  have sc := sc_count_parts
  (dss_one (ds_ret (de_op o_add (do_m de_int) (do_m (de_callB (c_sum rfl) rfl T.n_sum (by decide +kernel) (dos_cons (do_m (de_lc (own := [("part", 1)]) (mask := [true, false]) rfl sc.nd (di_val (de_call G_parts tk (hr.mono (by omega)) rfl T.m_parts T.F_parts.kp T.b_parts (dos_cons (do_m (de_v 0)) dos_nil))) (blkOk_by (N := N_count_parts) rfl) (fun _ _ _ _ _ => (dg_name sc.nd rfl (by first | exact Or.inl rfl | exact Or.inr rfl))) (fun _ _ _ _ _ => dts_nil) (fun _ _ _ _ _ => (de_call Gself takes0 (hr.mono (by omega)) rfl T.m_count_parts T.F_count_parts.kp T.b_count_parts (dos_cons (do_m (de_v 1)) dos_nil))))) dos_nil))))))
theorem ok_count_parts (T : Txt P K mg a) {k : Nat} {k_parts : Nat} (h_parts : k_parts ≤ k) (G_parts : FnOk P w K mg base (L2.CX P w) k_parts a.f_parts a.d_parts ["function"] (spOf K 1 m_parts)) : ∀ n : Nat, FnOk P w K mg base (L2.CX P w) (k + 1 + n) a.f_count_parts a.d_count_parts ["function"] (spOf K 1 (m_count_parts n))
  | 0 => fn_false fun ms R XR h => by unfold m_count_parts at h; exact h
  | n + 1 => (fn_ok (k := k + 1 + n + 0) T.F_count_parts sc_count_parts rfl (fun cdv A outer s H E hcd hr tk hp => d_count_parts (k := k + 1 + n + 0) T (Nat.le_trans h_parts (by omega)) G_parts (kself := k + 1 + n) (by omega) (ok_count_parts T h_parts G_parts n) hcd hr tk hp) (is_count_parts n)).mono (by omega)

theorem sc_arity : FnScope N_arity ["function"] (defScope st_arity) := ⟨rfl, rfl, rfl, by decide +kernel, rfl, by decide +kernel, by decide +kernel⟩
set_option maxHeartbeats 4000000 in
theorem d_arity (T : Txt P K mg a) {k : Nat} {mself : FM} {kself : Nat} (hself : kself ≤ k) (Gself : FnOk P w K mg base (L2.CX P w) kself a.f_arity a.d_arity ["function"] (spOf K 1 mself)) {cdv : Value} {A : Around} {outer : List Env} {s : Shared} {H : Hp} {E : XK} (hcd : a.d_arity.code = cdv) (hr : Room k (A.deeper (envOfC "arity" (defScope st_arity) s.heap.objs.size a.f_arity cdv))) (tk : Takes (cxOf (L2.CX P w) P w K mg base N_arity "arity" (defScope st_arity) a.f_arity cdv A outer s H E) (fun c d _ H => E c d H))
    (hp : PassesOwn (model P w) (A.deeper (envOfC "arity" (defScope st_arity) s.heap.objs.size a.f_arity cdv)) (envOfC "arity" (defScope st_arity) s.heap.objs.size a.f_arity cdv) (cxOf (L2.CX P w) P w K mg base N_arity "arity" (defScope st_arity) a.f_arity cdv A outer s H E).xe) :
    DSs (cxOf (L2.CX P w) P w K mg base N_arity "arity" (defScope st_arity) a.f_arity cdv A outer s H E) (fun c d _ H => E c d H) mask_arity (defBody st_arity) (b_arity mself) :=
  have sc := sc_arity
  (dss_cons (ds_set (i := 1) sc.nd rfl (by first | exact Or.inl rfl | exact Or.inr rfl) (de_ix o_ix (do_m (de_v 0)) (do_m de_int)))
  (dss_pc (dss_cons (ds_if (dt_cmp (o_in hr.units) (do_m (de_v 1)) (do_m (de_tup (da_cons de_str (da_cons de_str da_nil))))) (dss_one (ds_ret (de_ix o_ix (do_m (de_v 0)) (do_m de_int)))) dss_nil)
  (dss_pc (dss_cons (ds_if (dt_cmp (o_eq hr.units) (do_m (de_v 1)) (do_m de_str)) (dss_one (ds_ret de_int)) dss_nil)
  (dss_pc (dss_cons (ds_if (dt_cmp (o_eq hr.units) (do_m (de_v 1)) (do_m de_str)) (dss_one (ds_ret (de_call Gself tk (hr.mono (by omega)) rfl T.m_arity T.F_arity.kp T.b_arity (dos_cons (do_m (de_ix o_ix (do_m (de_ix o_ix (do_m (de_v 0)) (do_m de_int))) (do_m de_int))) dos_nil)))) dss_nil)
  (dss_pc (dss_cons (ds_if (dt_cmp (o_eq hr.units) (do_m (de_v 1)) (do_m de_str)) (dss_one (ds_ret (de_op o_add (do_m (de_call Gself tk (hr.mono (by omega)) rfl T.m_arity T.F_arity.kp T.b_arity (dos_cons (do_m (de_ix o_ix (do_m (de_v 0)) (do_m de_int))) dos_nil))) (do_m de_int)))) dss_nil)
  (dss_pc (dss_one (ds_ret (de_op o_sub (do_m (de_call Gself tk (hr.mono (by omega)) rfl T.m_arity T.F_arity.kp T.b_arity (dos_cons (do_m (de_ix o_ix (do_m (de_v 0)) (do_m de_int))) dos_nil))) (do_m de_int))))))))))))))
theorem ok_arity (T : Txt P K mg a) {k : Nat} : ∀ n : Nat, FnOk P w K mg base (L2.CX P w) (k + 1 + n) a.f_arity a.d_arity ["function"] (spOf K 1 (m_arity n))
  | 0 => fn_false fun ms R XR h => by unfold m_arity at h; exact h
  | n + 1 => (fn_ok (k := k + 1 + n + 0) T.F_arity sc_arity rfl (fun cdv A outer s H E hcd hr tk hp => d_arity (k := k + 1 + n + 0) T (kself := k + 1 + n) (by omega) (ok_arity T n) hcd hr tk hp) (is_arity n)).mono (by omega)

theorem sc_has_right_arities : FnScope N_has_right_arities ["function"] (defScope st_has_right_arities) := ⟨rfl, rfl, rfl, by decide +kernel, rfl, by decide +kernel, by decide +kernel⟩
set_option maxHeartbeats 4000000 in
theorem d_has_right_arities (T : Txt P K mg a) {k : Nat} (hk3 : 3 ≤ k) (TB : TxB mg base a) {k_parts : Nat} (h_parts : k_parts ≤ k) (G_parts : FnOk P w K mg base (L2.CX P w) k_parts a.f_parts a.d_parts ["function"] (spOf K 1 m_parts)) {k_arity : Nat} (h_arity : k_arity + 3 ≤ k) (G_arity : FnOk P w K mg base (L2.CX P w) k_arity a.f_arity a.d_arity ["function"] (spOf K 1 (m_arity 18))) {mself : FM} {kself : Nat} (hself : kself + 3 ≤ k) (Gself : FnOk P w K mg base (L2.CX P w) kself a.f_has_right_arities a.d_has_right_arities ["function"] (spOf K 1 mself)) {cdv : Value} {A : Around} {outer : List Env} {s : Shared} {H : Hp} {E : XK} (hcd : a.d_has_right_arities.code = cdv) (hr : Room k (A.deeper (envOfC "has_right_arities" (defScope st_has_right_arities) s.heap.objs.size a.f_has_right_arities cdv))) (tk : Takes (cxOf (L2.CX P w) P w K mg base N_has_right_arities "has_right_arities" (defScope st_has_right_arities) a.f_has_right_arities cdv A outer s H E) (fun c d _ H => E c d H))
    (hp : PassesOwn (model P w) (A.deeper (envOfC "has_right_arities" (defScope st_has_right_arities) s.heap.objs.size a.f_has_right_arities cdv)) (envOfC "has_right_arities" (defScope st_has_right_arities) s.heap.objs.size a.f_has_right_arities cdv) (cxOf (L2.CX P w) P w K mg base N_has_right_arities "has_right_arities" (defScope st_has_right_arities) a.f_has_right_arities cdv A outer s H E).xe) :
    DSs (cxOf (L2.CX P w) P w K mg base N_has_right_arities "has_right_arities" (defScope st_has_right_arities) a.f_has_right_arities cdv A outer s H E) (fun c d _ H => E c d H) mask_has_right_arities (defBody st_has_right_arities) (b_has_right_arities mself) :=
  have sc := sc_has_right_arities
  (dss_cons (ds_set (i := 1) sc.nd rfl (by first | exact Or.inl rfl | exact Or.inr rfl) (de_ix o_ix (do_m (de_v 0)) (do_m de_int)))
  (dss_pc (dss_cons (ds_if (dt_cmp (o_eq hr.units) (do_m (de_v 1)) (do_m de_str)) (dss_one (ds_ret (de_ch o_le o_le de_int (de_ix o_ix (do_m (de_v 0)) (do_m de_int)) (de_glob (v := .int 6) rfl T.g_MOST_ARITY ⟨_, rfl⟩ fun _ _ _ => .int _)))) dss_nil)
  (dss_pc (dss_cons (ds_if (dt_cmp (o_eq hr.units) (do_m (de_v 1)) (do_m de_str)) (dss_one (ds_ret (de_and (de_ch o_le o_le de_int (de_ix o_ix (do_m (de_v 0)) (do_m de_int)) (de_glob (v := .int 6) rfl T.g_MOST_ARITY ⟨_, rfl⟩ fun _ _ _ => .int _)) (de_one (de_ch o_le o_lt de_int (de_ix o_ix (do_m (de_v 0)) (do_m de_int)) (de_ix o_ix (do_m (de_v 0)) (do_m de_int))))))) dss_nil)
  (dss_pc (dss_cons (ds_if (dt_w (dw_and (dt_cmp (o_eq hr.units) (do_m (de_v 1)) (do_m de_str)) (dw_and1 (dt_cmp (o_eq hr.units) (do_m (de_callB c_len rfl T.n_len (by decide +kernel) (dos_cons (do_m (de_ix o_ix (do_m (de_v 0)) (do_m de_int))) dos_nil))) (do_m de_int))))) (dss_one (ds_ret de_bl)) dss_nil)
  (dss_pc (dss_cons (ds_if (dt_not (dt_of (de_allG (own := [("part", 3)]) (mask := [true, true, true, false, true]) hr rfl sc.nd rfl T.n_all T.tb_has_right_arities TB.t_has_right_arities (hcd.symm.trans T.cd_has_right_arities) ⟨blkOk_by (N := N_has_right_arities) rfl, rfl, by decide +kernel, rfl⟩ (di_val (de_call G_parts tk (hr.mono (by omega)) rfl T.m_parts T.F_parts.kp T.b_parts (dos_cons (do_m (de_v 0)) dos_nil))) (fun _ _ _ _ _ _ => (dg_name sc.nd rfl (by first | exact Or.inl rfl | exact Or.inr rfl))) (fun _ _ _ _ _ _ => (de_call Gself takes0 (room_gx hr (by omega)) rfl T.m_has_right_arities T.F_has_right_arities.kp T.b_has_right_arities (dos_cons (do_m (de_v 3)) dos_nil)))))) (dss_one (ds_ret de_bl)) dss_nil)
  (dss_pc (dss_cons (ds_if (dt_cmp (o_eq hr.units) (do_m (de_v 1)) (do_m de_str)) (dss_cons (ds_set (i := 2) sc.nd rfl (by first | exact Or.inl rfl | exact Or.inr rfl) (de_call G_arity tk (hr.mono (by omega)) rfl T.m_arity T.F_arity.kp T.b_arity (dos_cons (do_m (de_v 0)) dos_nil)))
  (dss_one (ds_ret (de_and (de_cmp (o_eq hr.units) (do_m (de_call G_arity tk (hr.mono (by omega)) rfl T.m_arity T.F_arity.kp T.b_arity (dos_cons (do_m (de_ix o_ix (do_m (de_v 0)) (do_m de_int))) dos_nil))) (do_m (de_callB c_len rfl T.n_len (by decide +kernel) (dos_cons (do_m (de_ix o_ix (do_m (de_v 0)) (do_m de_int))) dos_nil)))) (de_one (de_allG (own := [("inner", 4)]) (mask := [true, true, true, true, false]) hr rfl sc.nd rfl T.n_all T.tb_has_right_arities TB.t_has_right_arities (hcd.symm.trans T.cd_has_right_arities) ⟨blkOk_by (N := N_has_right_arities) rfl, rfl, by decide +kernel, rfl⟩ (di_val (de_ix o_ix (do_m (de_v 0)) (do_m de_int))) (fun _ _ _ _ _ _ => (dg_name sc.nd rfl (by first | exact Or.inl rfl | exact Or.inr rfl))) (fun _ _ _ _ _ _ => (de_cmp (o_eq (room_gx (j := 0) hr (by omega)).units) (do_m (de_call G_arity takes0 (room_gx hr (by omega)) rfl T.m_arity T.F_arity.kp T.b_arity (dos_cons (do_m (de_v 4)) dos_nil))) (do_m (de_v 2)))))))))) dss_nil)
  (dss_pc (dss_cons (ds_if (dt_cmp (o_eq hr.units) (do_m (de_v 1)) (do_m de_str)) (dss_one (ds_ret (de_and (de_cmp o_lt (do_m (de_call G_arity tk (hr.mono (by omega)) rfl T.m_arity T.F_arity.kp T.b_arity (dos_cons (do_m (de_ix o_ix (do_m (de_v 0)) (do_m de_int))) dos_nil))) (do_m (de_glob (v := .int 6) rfl T.g_MOST_ARITY ⟨_, rfl⟩ fun _ _ _ => .int _))) (de_one (de_cmp (o_eq hr.units) (do_m (de_call G_arity tk (hr.mono (by omega)) rfl T.m_arity T.F_arity.kp T.b_arity (dos_cons (do_m (de_ix o_ix (do_m (de_v 0)) (do_m de_int))) dos_nil))) (do_m (de_op o_add (do_m (de_call G_arity tk (hr.mono (by omega)) rfl T.m_arity T.F_arity.kp T.b_arity (dos_cons (do_m (de_ix o_ix (do_m (de_v 0)) (do_m de_int))) dos_nil))) (do_m de_int)))))))) dss_nil)
  (dss_pc (dss_one (ds_ret (de_or (de_cmp (o_eq hr.units) (do_m (de_v 1)) (do_m de_str)) (de_one (de_cmp o_ge (do_m (de_call G_arity tk (hr.mono (by omega)) rfl T.m_arity T.F_arity.kp T.b_arity (dos_cons (do_m (de_ix o_ix (do_m (de_v 0)) (do_m de_int))) dos_nil))) (do_m de_int))))))))))))))))))))
theorem ok_has_right_arities (T : Txt P K mg a) {k : Nat} (hk3 : 3 ≤ k) (TB : TxB mg base a) {k_parts : Nat} (h_parts : k_parts ≤ k) (G_parts : FnOk P w K mg base (L2.CX P w) k_parts a.f_parts a.d_parts ["function"] (spOf K 1 m_parts)) {k_arity : Nat} (h_arity : k_arity + 3 ≤ k) (G_arity : FnOk P w K mg base (L2.CX P w) k_arity a.f_arity a.d_arity ["function"] (spOf K 1 (m_arity 18))) : ∀ n : Nat, FnOk P w K mg base (L2.CX P w) (k + 1 + 4 * n) a.f_has_right_arities a.d_has_right_arities ["function"] (spOf K 1 (m_has_right_arities n))
  | 0 => fn_false fun ms R XR h => by unfold m_has_right_arities at h; exact h
  | n + 1 => (fn_ok (k := k + 1 + 4 * n + 3) T.F_has_right_arities sc_has_right_arities rfl (fun cdv A outer s H E hcd hr tk hp => d_has_right_arities (k := k + 1 + 4 * n + 3) T (Nat.le_trans hk3 (by omega)) TB (Nat.le_trans h_parts (by omega)) G_parts (Nat.le_trans h_arity (by omega)) G_arity (kself := k + 1 + 4 * n) (by omega) (ok_has_right_arities T hk3 TB h_parts G_parts h_arity G_arity n) hcd hr tk hp) (is_has_right_arities n)).mono (by omega)

theorem sc_is_function : FnScope N_is_function ["thing"] (defScope st_is_function) := ⟨rfl, rfl, rfl, by decide +kernel, rfl, by decide +kernel, by decide +kernel⟩
set_option maxHeartbeats 4000000 in
theorem d_is_function (T : Txt P K mg a) {k : Nat} {k_depth : Nat} (h_depth : k_depth ≤ k) (G_depth : FnOk P w K mg base (L2.CX P w) k_depth a.f_depth a.d_depth ["function"] (spOf K 1 (m_depth 18))) {k_count_parts : Nat} (h_count_parts : k_count_parts ≤ k) (G_count_parts : FnOk P w K mg base (L2.CX P w) k_count_parts a.f_count_parts a.d_count_parts ["function"] (spOf K 1 (m_count_parts 18))) {k_has_right_arities : Nat} (h_has_right_arities : k_has_right_arities ≤ k) (G_has_right_arities : FnOk P w K mg base (L2.CX P w) k_has_right_arities a.f_has_right_arities a.d_has_right_arities ["function"] (spOf K 1 (m_has_right_arities 18))) {cdv : Value} {A : Around} {outer : List Env} {s : Shared} {H : Hp} {E : XK} (hcd : a.d_is_function.code = cdv) (hr : Room k (A.deeper (envOfC "is_function" (defScope st_is_function) s.heap.objs.size a.f_is_function cdv))) (tk : Takes (cxOf (L2.CX P w) P w K mg base N_is_function "is_function" (defScope st_is_function) a.f_is_function cdv A outer s H E) (fun c d _ H => E c d H))
    (hp : PassesOwn (model P w) (A.deeper (envOfC "is_function" (defScope st_is_function) s.heap.objs.size a.f_is_function cdv)) (envOfC "is_function" (defScope st_is_function) s.heap.objs.size a.f_is_function cdv) (cxOf (L2.CX P w) P w K mg base N_is_function "is_function" (defScope st_is_function) a.f_is_function cdv A outer s H E).xe) :
    DSs (cxOf (L2.CX P w) P w K mg base N_is_function "is_function" (defScope st_is_function) a.f_is_function cdv A outer s H E) (fun c d _ H => E c d H) mask_is_function (defBody st_is_function) (b_is_function) :=
  have sc := sc_is_function
  (dss_one (ds_ret (de_and (de_cmp o_le (do_m (de_call G_depth tk (hr.mono (by omega)) rfl T.m_depth T.F_depth.kp T.b_depth (dos_cons (do_m (de_v 0)) dos_nil))) (do_m (de_glob (v := .int 12) rfl T.g_MOST_DEPTH ⟨_, rfl⟩ fun _ _ _ => .int _))) (de_and (de_cmp o_le (do_m (de_call G_count_parts tk (hr.mono (by omega)) rfl T.m_count_parts T.F_count_parts.kp T.b_count_parts (dos_cons (do_m (de_v 0)) dos_nil))) (do_m (de_glob (v := .int 200) rfl T.g_MOST_PARTS ⟨_, rfl⟩ fun _ _ _ => .int _))) (de_one (de_call G_has_right_arities tk (hr.mono (by omega)) rfl T.m_has_right_arities T.F_has_right_arities.kp T.b_has_right_arities (dos_cons (do_m (de_v 0)) dos_nil)))))))
theorem ok_is_function (T : Txt P K mg a) {k : Nat} {k_depth : Nat} (h_depth : k_depth ≤ k) (G_depth : FnOk P w K mg base (L2.CX P w) k_depth a.f_depth a.d_depth ["function"] (spOf K 1 (m_depth 18))) {k_count_parts : Nat} (h_count_parts : k_count_parts ≤ k) (G_count_parts : FnOk P w K mg base (L2.CX P w) k_count_parts a.f_count_parts a.d_count_parts ["function"] (spOf K 1 (m_count_parts 18))) {k_has_right_arities : Nat} (h_has_right_arities : k_has_right_arities ≤ k) (G_has_right_arities : FnOk P w K mg base (L2.CX P w) k_has_right_arities a.f_has_right_arities a.d_has_right_arities ["function"] (spOf K 1 (m_has_right_arities 18))) : FnOk P w K mg base (L2.CX P w) (k + 1) a.f_is_function a.d_is_function ["thing"] (spOf K 1 m_is_function) := fn_ok T.F_is_function sc_is_function rfl (fun cdv A outer s H E hcd hr tk hp => d_is_function T h_depth G_depth h_count_parts G_count_parts h_has_right_arities G_has_right_arities hcd hr tk hp) is_is_function

theorem sc_check_arguments : FnScope N_check_arguments ["function", "arguments"] (defScope st_check_arguments) := ⟨rfl, rfl, rfl, by decide +kernel, rfl, by decide +kernel, by decide +kernel⟩
set_option maxHeartbeats 4000000 in
theorem d_check_arguments (T : Txt P K mg a) {k : Nat} (hk3 : 3 ≤ k) (TB : TxB mg base a) {k_is_function : Nat} (h_is_function : k_is_function ≤ k) (G_is_function : FnOk P w K mg base (L2.CX P w) k_is_function a.f_is_function a.d_is_function ["thing"] (spOf K 1 m_is_function)) {k_arity : Nat} (h_arity : k_arity ≤ k) (G_arity : FnOk P w K mg base (L2.CX P w) k_arity a.f_arity a.d_arity ["function"] (spOf K 1 (m_arity 18))) {cdv : Value} {A : Around} {outer : List Env} {s : Shared} {H : Hp} {E : XK} (hcd : a.d_check_arguments.code = cdv) (hr : Room k (A.deeper (envOfC "check_arguments" (defScope st_check_arguments) s.heap.objs.size a.f_check_arguments cdv))) (tk : Takes (cxOf (L2.CX P w) P w K mg base N_check_arguments "check_arguments" (defScope st_check_arguments) a.f_check_arguments cdv A outer s H E) (fun c d _ H => E c d H))
    (hp : PassesOwn (model P w) (A.deeper (envOfC "check_arguments" (defScope st_check_arguments) s.heap.objs.size a.f_check_arguments cdv)) (envOfC "check_arguments" (defScope st_check_arguments) s.heap.objs.size a.f_check_arguments cdv) (cxOf (L2.CX P w) P w K mg base N_check_arguments "check_arguments" (defScope st_check_arguments) a.f_check_arguments cdv A outer s H E).xe) :
    DSs (cxOf (L2.CX P w) P w K mg base N_check_arguments "check_arguments" (defScope st_check_arguments) a.f_check_arguments cdv A outer s H E) (fun c d _ H => E c d H) mask_check_arguments (defBody st_check_arguments) (b_check_arguments a.ca) :=
  have sc := sc_check_arguments
  (dss_cons (ds_if (dt_not (dt_of (de_call G_is_function tk (hr.mono (by omega)) rfl T.m_is_function T.F_is_function.kp T.b_is_function (dos_cons (do_m (de_v 0)) dos_nil)))) (dss_one (ds_raise rfl tk (pmk_own PySem.F.excBase_ValueError T.xx_InvalidFunction T.mgX_InvalidFunction T.kx_InvalidFunction (raises_own T.bx_InvalidFunction T.tx_InvalidFunction) (by exact rfl)))) dss_nil)
  (dss_one (ds_if (dt_w (dw_or (dt_cmp (o_ne hr.units) (do_m (de_callB c_len rfl T.n_len (by decide +kernel) (dos_cons (do_m (de_v 1)) dos_nil))) (do_m (de_call G_arity tk (hr.mono (by omega)) rfl T.m_arity T.F_arity.kp T.b_arity (dos_cons (do_m (de_v 0)) dos_nil)))) (dw_or1 (dt_of (de_anyG (own := [("argument", 2)]) (mask := [true, true, false]) hr rfl sc.nd rfl T.n_any T.tb_check_arguments TB.t_check_arguments (hcd.symm.trans T.cd_check_arguments) ⟨blkOk_by (N := N_check_arguments) rfl, rfl, by decide +kernel, rfl⟩ (di_val (de_v 1)) (fun _ _ _ _ _ _ => (dg_name sc.nd rfl (by first | exact Or.inl rfl | exact Or.inr rfl))) (fun _ _ _ _ _ _ => (de_cmp o_lt (do_m (de_v 2)) (do_m de_int)))))))) (dss_one (ds_raise rfl tk (pmk_own PySem.F.excBase_ValueError T.xx_BadArgument T.mgX_BadArgument T.kx_BadArgument (raises_own T.bx_BadArgument T.tx_BadArgument) (by exact rfl)))) dss_nil)))
theorem ok_check_arguments (T : Txt P K mg a) {k : Nat} (hk3 : 3 ≤ k) (TB : TxB mg base a) {k_is_function : Nat} (h_is_function : k_is_function ≤ k) (G_is_function : FnOk P w K mg base (L2.CX P w) k_is_function a.f_is_function a.d_is_function ["thing"] (spOf K 1 m_is_function)) {k_arity : Nat} (h_arity : k_arity ≤ k) (G_arity : FnOk P w K mg base (L2.CX P w) k_arity a.f_arity a.d_arity ["function"] (spOf K 1 (m_arity 18))) : FnOk P w K mg base (L2.CX P w) (k + 1) a.f_check_arguments a.d_check_arguments ["function", "arguments"] (spOf K 2 (m_check_arguments a.ca)) := fn_ok T.F_check_arguments sc_check_arguments rfl (fun cdv A outer s H E hcd hr tk hp => d_check_arguments T hk3 TB h_is_function G_is_function h_arity G_arity hcd hr tk hp) (is_check_arguments a.ca)

theorem sc_Evaluation___init__ : FnScope N_Evaluation___init__ ["self", "limit"] (defScope st_Evaluation___init__) := ⟨rfl, rfl, rfl, by decide +kernel, rfl, by decide +kernel, by decide +kernel⟩
set_option maxHeartbeats 4000000 in
theorem d_Evaluation___init__ (T : Txt P K mg a) {k : Nat} {cdv : Value} {A : Around} {outer : List Env} {s : Shared} {H : Hp} {E : XK} (hcd : a.d_Evaluation___init__.code = cdv) (hr : Room k (A.deeper (envOfC "Evaluation.__init__" (defScope st_Evaluation___init__) s.heap.objs.size a.f_Evaluation___init__ cdv))) (tk : Takes (cxOf (L2.CX P w) P w K mg base N_Evaluation___init__ "Evaluation.__init__" (defScope st_Evaluation___init__) a.f_Evaluation___init__ cdv A outer s H E) (fun c d _ H => E c d H))
    (hp : PassesOwn (model P w) (A.deeper (envOfC "Evaluation.__init__" (defScope st_Evaluation___init__) s.heap.objs.size a.f_Evaluation___init__ cdv)) (envOfC "Evaluation.__init__" (defScope st_Evaluation___init__) s.heap.objs.size a.f_Evaluation___init__ cdv) (cxOf (L2.CX P w) P w K mg base N_Evaluation___init__ "Evaluation.__init__" (defScope st_Evaluation___init__) a.f_Evaluation___init__ cdv A outer s H E).xe) :
    DSs (cxOf (L2.CX P w) P w K mg base N_Evaluation___init__ "Evaluation.__init__" (defScope st_Evaluation___init__) a.f_Evaluation___init__ cdv A outer s H E) (fun c d _ H => E c d H) mask_Evaluation___init__ (defBody st_Evaluation___init__) (b_Evaluation___init__ a.ca) :=
  have sc := sc_Evaluation___init__
  (dss_cons (ds_fld (do_n 0) (de_v 1) T.cl_Evaluation T.na_Evaluation_limit)
  (dss_one (ds_fld (do_n 0) de_int T.cl_Evaluation T.na_Evaluation_count)))
theorem ok_Evaluation___init__ (T : Txt P K mg a) {k : Nat} : FnOk P w K mg base (L2.CX P w) (k + 1) a.f_Evaluation___init__ a.d_Evaluation___init__ ["self", "limit"] (spOf K 2 (m_Evaluation___init__ a.ca)) := fn_ok T.F_Evaluation___init__ sc_Evaluation___init__ rfl (fun cdv A outer s H E hcd hr tk hp => d_Evaluation___init__ T hcd hr tk hp) (is_Evaluation___init__ a.ca)

theorem sc_Evaluation_repeat : FnScope N_Evaluation_repeat ["self", "function", "count", "rest"] (defScope st_Evaluation_repeat) := ⟨rfl, rfl, rfl, by decide +kernel, rfl, by decide +kernel, by decide +kernel⟩
set_option maxHeartbeats 4000000 in
theorem d_Evaluation_repeat (T : Txt P K mg a) {k : Nat} {mself : FM} {kself : Nat} (hself : kself ≤ k) (Gself : FnOk P w K mg base (L2.CX P w) kself a.f_Evaluation_apply a.d_Evaluation_apply ["self", "function", "arguments"] (spOf K 3 mself)) {cdv : Value} {A : Around} {outer : List Env} {s : Shared} {H : Hp} {E : XK} (hcd : a.d_Evaluation_repeat.code = cdv) (hr : Room k (A.deeper (envOfC "Evaluation.repeat" (defScope st_Evaluation_repeat) s.heap.objs.size a.f_Evaluation_repeat cdv))) (tk : Takes (cxOf (L2.CX P w) P w K mg base N_Evaluation_repeat "Evaluation.repeat" (defScope st_Evaluation_repeat) a.f_Evaluation_repeat cdv A outer s H E) (fun c d _ H => E c d H))
    (hp : PassesOwn (model P w) (A.deeper (envOfC "Evaluation.repeat" (defScope st_Evaluation_repeat) s.heap.objs.size a.f_Evaluation_repeat cdv)) (envOfC "Evaluation.repeat" (defScope st_Evaluation_repeat) s.heap.objs.size a.f_Evaluation_repeat cdv) (cxOf (L2.CX P w) P w K mg base N_Evaluation_repeat "Evaluation.repeat" (defScope st_Evaluation_repeat) a.f_Evaluation_repeat cdv A outer s H E).xe) :
    DSs (cxOf (L2.CX P w) P w K mg base N_Evaluation_repeat "Evaluation.repeat" (defScope st_Evaluation_repeat) a.f_Evaluation_repeat cdv A outer s H E) (fun c d _ H => E c d H) mask_Evaluation_repeat (defBody st_Evaluation_repeat) (b_Evaluation_repeat a.ca mself) :=
  have sc := sc_Evaluation_repeat
  (dss_cons (ds_set (i := 4) sc.nd rfl (by first | exact Or.inl rfl | exact Or.inr rfl) (de_mt (do_n 0) T.cl_Evaluation T.me_Evaluation_apply Gself tk (hr.mono (by omega)) T.b_Evaluation_apply (dos_cons (do_m (de_ix o_ix (do_m (de_v 1)) (do_m de_int))) (dos_cons (do_n 3) dos_nil))))
  (dss_cons (ds_for hp rfl (di_r1 rfl T.n_range (da_cons (de_v 2) da_nil)) (dg_name sc.nd rfl (by first | exact Or.inl rfl | exact Or.inr rfl)) (dss_one (ds_set (i := 4) sc.nd rfl (by first | exact Or.inl rfl | exact Or.inr rfl) (de_mt (do_n 0) T.cl_Evaluation T.me_Evaluation_apply Gself tk (hr.mono (by omega)) T.b_Evaluation_apply (dos_cons (do_m (de_ix o_ix (do_m (de_v 1)) (do_m de_int))) (dos_cons (do_m (de_op o_add (do_m (de_tup (da_cons (de_v 5) (da_cons (de_v 4) da_nil)))) (do_m (de_v 3)))) dos_nil))))))
  (dss_one (ds_ret (de_v 4)))))
theorem ok_Evaluation_repeat (T : Txt P K mg a) {k : Nat} {mself : FM} {kself : Nat} (hself : kself ≤ k) (Gself : FnOk P w K mg base (L2.CX P w) kself a.f_Evaluation_apply a.d_Evaluation_apply ["self", "function", "arguments"] (spOf K 3 mself)) : FnOk P w K mg base (L2.CX P w) (k + 1) a.f_Evaluation_repeat a.d_Evaluation_repeat ["self", "function", "count", "rest"] (spOf K 4 (m_Evaluation_repeat a.ca mself)) := fn_ok T.F_Evaluation_repeat sc_Evaluation_repeat rfl (fun cdv A outer s H E hcd hr tk hp => d_Evaluation_repeat T hself Gself hcd hr tk hp) fun _ _ _ _ h => h

theorem sc_Evaluation_apply : FnScope N_Evaluation_apply ["self", "function", "arguments"] (defScope st_Evaluation_apply) := ⟨rfl, rfl, rfl, by decide +kernel, rfl, by decide +kernel, by decide +kernel⟩
set_option maxHeartbeats 4000000 in
theorem d_Evaluation_apply (T : Txt P K mg a) {k : Nat} (hk3 : 3 ≤ k) (TB : TxB mg base a) {mself : FM} {kself : Nat} (hself : kself + 1 ≤ k) (Gself : FnOk P w K mg base (L2.CX P w) kself a.f_Evaluation_apply a.d_Evaluation_apply ["self", "function", "arguments"] (spOf K 3 mself)) {cdv : Value} {A : Around} {outer : List Env} {s : Shared} {H : Hp} {E : XK} (hcd : a.d_Evaluation_apply.code = cdv) (hr : Room k (A.deeper (envOfC "Evaluation.apply" (defScope st_Evaluation_apply) s.heap.objs.size a.f_Evaluation_apply cdv))) (tk : Takes (cxOf (L2.CX P w) P w K mg base N_Evaluation_apply "Evaluation.apply" (defScope st_Evaluation_apply) a.f_Evaluation_apply cdv A outer s H E) (fun c d _ H => E c d H))
    (hp : PassesOwn (model P w) (A.deeper (envOfC "Evaluation.apply" (defScope st_Evaluation_apply) s.heap.objs.size a.f_Evaluation_apply cdv)) (envOfC "Evaluation.apply" (defScope st_Evaluation_apply) s.heap.objs.size a.f_Evaluation_apply cdv) (cxOf (L2.CX P w) P w K mg base N_Evaluation_apply "Evaluation.apply" (defScope st_Evaluation_apply) a.f_Evaluation_apply cdv A outer s H E).xe) :
    DSs (cxOf (L2.CX P w) P w K mg base N_Evaluation_apply "Evaluation.apply" (defScope st_Evaluation_apply) a.f_Evaluation_apply cdv A outer s H E) (fun c d _ H => E c d H) mask_Evaluation_apply (defBody st_Evaluation_apply) (b_Evaluation_apply a.ca mself) :=
  have sc := sc_Evaluation_apply
  (dss_cons (ds_faug (do_n 0) T.cl_Evaluation T.na_Evaluation_count)
  (dss_pc (dss_cons (ds_if (dt_cmp o_gt (do_m (de_fld (do_n 0) T.cl_Evaluation T.na_Evaluation_count)) (do_m (de_fld (do_n 0) T.cl_Evaluation T.na_Evaluation_limit))) (dss_one (ds_raiseX (k := 0) rfl tk T.sx_TooLong (hr.mono (by omega)) rfl T.mgX_TooLong (de_fld (do_n 0) T.cl_Evaluation T.na_Evaluation_limit))) dss_nil)
  (dss_pc (dss_cons (ds_set (i := 3) sc.nd rfl (by first | exact Or.inl rfl | exact Or.inr rfl) (de_ix o_ix (do_m (de_v 1)) (do_m de_int)))
  (dss_pc (dss_cons (ds_if (dt_cmp (o_eq hr.units) (do_m (de_v 3)) (do_m de_str)) (dss_one (ds_ret de_int)) dss_nil)
  (dss_pc (dss_cons (ds_if (dt_cmp (o_eq hr.units) (do_m (de_v 3)) (do_m de_str)) (dss_one (ds_ret (de_op o_add (do_m (de_ix o_ix (do_n 2) (do_m de_int))) (do_m de_int)))) dss_nil)
  (dss_pc (dss_cons (ds_if (dt_cmp (o_eq hr.units) (do_m (de_v 3)) (do_m de_str)) (dss_one (ds_ret (de_ix o_ix (do_n 2) (do_m (de_ix o_ix (do_m (de_v 1)) (do_m de_int)))))) dss_nil)
  (dss_pc (dss_cons (ds_if (dt_cmp (o_eq hr.units) (do_m (de_v 3)) (do_m de_str)) (dss_cons (ds_set (i := 4) sc.nd rfl (by first | exact Or.inl rfl | exact Or.inr rfl) (de_callTy c_tuple rfl T.n_tuple (by decide +kernel) (dos_cons (do_m (de_lcX (own := [("part", 6)]) (mask := [true, true, true, true, true, true, false]) tk rfl rfl rfl sc.nd (di_val (de_ix o_ix (do_m (de_v 1)) (do_m de_int))) (blkOk_by (N := N_Evaluation_apply) rfl) (fun _ _ _ _ _ => (dg_name sc.nd rfl (by first | exact Or.inl rfl | exact Or.inr rfl))) (fun _ _ _ _ _ => dts_nil) (fun _ _ _ _ _ _ => (de_mtW (do_n 0) T.cl_Evaluation T.me_Evaluation_apply Gself passW (hr.mono (by omega)) T.b_Evaluation_apply (dos_cons (do_m (de_v 6)) (dos_cons (do_n 2) dos_nil)))))) dos_nil)))
  (dss_one (ds_ret (de_mt (do_n 0) T.cl_Evaluation T.me_Evaluation_apply Gself tk (hr.mono (by omega)) T.b_Evaluation_apply (dos_cons (do_m (de_ix o_ix (do_m (de_v 1)) (do_m de_int))) (dos_cons (do_m (de_v 4)) dos_nil)))))) dss_nil)
  (dss_pc (dss_cons (ds_if (dt_cmp (o_eq hr.units) (do_m (de_v 3)) (do_m de_str)) (dss_one (ds_ret (de_mt (do_n 0) T.cl_Evaluation T.me_Evaluation_repeat (ok_Evaluation_repeat T (k := kself) (Nat.le_refl _) Gself) tk (hr.mono (by omega)) T.b_Evaluation_repeat (dos_cons (do_m (de_v 1)) (dos_cons (do_m (de_ix o_ix (do_n 2) (do_m de_int))) (dos_cons (do_m (de_sl (do_n 2) (dp_some de_int) dp_none)) dos_nil)))))) dss_nil)
  (dss_pc (dss_cons (ds_set (i := 5) sc.nd rfl (by first | exact Or.inl rfl | exact Or.inr rfl) de_int)
  (dss_pc (dss_cons (ds_while hp (dt_cmp (o_ne hr.units) (do_m (de_mt (do_n 0) T.cl_Evaluation T.me_Evaluation_apply Gself tk (hr.mono (by omega)) T.b_Evaluation_apply (dos_cons (do_m (de_ix o_ix (do_m (de_v 1)) (do_m de_int))) (dos_cons (do_m (de_op o_add (do_m (de_tup (da_cons (de_v 5) da_nil))) (do_m (de_v 2)))) dos_nil)))) (do_m de_int)) (dss_one (ds_aug sc.nd rfl (by first | exact Or.inl rfl | exact Or.inr rfl) de_int ip_add')))
  (dss_pc (dss_one (ds_ret (de_v 5)))))))))))))))))))))))
theorem ok_Evaluation_apply (T : Txt P K mg a) {k : Nat} (hk3 : 3 ≤ k) (TB : TxB mg base a) : ∀ n : Nat, FnOk P w K mg base (L2.CX P w) (k + 1 + 2 * n) a.f_Evaluation_apply a.d_Evaluation_apply ["self", "function", "arguments"] (spOf K 3 (m_Evaluation_apply a.ca n))
  | 0 => fn_false fun ms R XR h => by unfold m_Evaluation_apply at h; exact h
  | n + 1 => (fn_ok (k := k + 1 + 2 * n + 1) T.F_Evaluation_apply sc_Evaluation_apply rfl (fun cdv A outer s H E hcd hr tk hp => d_Evaluation_apply (k := k + 1 + 2 * n + 1) T (Nat.le_trans hk3 (by omega)) TB (kself := k + 1 + 2 * n) (by omega) (ok_Evaluation_apply T hk3 TB n) hcd hr tk hp) (is_Evaluation_apply a.ca n)).mono (by omega)

theorem sc_evaluated : FnScope N_evaluated ["function", "arguments", "limit"] (defScope st_evaluated) := ⟨rfl, rfl, rfl, by decide +kernel, rfl, by decide +kernel, by decide +kernel⟩
set_option maxHeartbeats 4000000 in
theorem d_evaluated (T : Txt P K mg a) {k : Nat} {k_check_arguments : Nat} (h_check_arguments : k_check_arguments ≤ k) (G_check_arguments : FnOk P w K mg base (L2.CX P w) k_check_arguments a.f_check_arguments a.d_check_arguments ["function", "arguments"] (spOf K 2 (m_check_arguments a.ca))) {k_Evaluation___init__ : Nat} (h_Evaluation___init__ : k_Evaluation___init__ + 1 ≤ k) (G_Evaluation___init__ : FnOk P w K mg base (L2.CX P w) k_Evaluation___init__ a.f_Evaluation___init__ a.d_Evaluation___init__ ["self", "limit"] (spOf K 2 (m_Evaluation___init__ a.ca))) {k_Evaluation_apply : Nat} (h_Evaluation_apply : k_Evaluation_apply ≤ k) (G_Evaluation_apply : FnOk P w K mg base (L2.CX P w) k_Evaluation_apply a.f_Evaluation_apply a.d_Evaluation_apply ["self", "function", "arguments"] (spOf K 3 (m_Evaluation_apply a.ca 18))) {cdv : Value} {A : Around} {outer : List Env} {s : Shared} {H : Hp} {E : XK} (hcd : a.d_evaluated.code = cdv) (hr : Room k (A.deeper (envOfC "evaluated" (defScope st_evaluated) s.heap.objs.size a.f_evaluated cdv))) (tk : Takes (cxOf (L2.CX P w) P w K mg base N_evaluated "evaluated" (defScope st_evaluated) a.f_evaluated cdv A outer s H E) (fun c d _ H => E c d H))
    (hp : PassesOwn (model P w) (A.deeper (envOfC "evaluated" (defScope st_evaluated) s.heap.objs.size a.f_evaluated cdv)) (envOfC "evaluated" (defScope st_evaluated) s.heap.objs.size a.f_evaluated cdv) (cxOf (L2.CX P w) P w K mg base N_evaluated "evaluated" (defScope st_evaluated) a.f_evaluated cdv A outer s H E).xe) :
    DSs (cxOf (L2.CX P w) P w K mg base N_evaluated "evaluated" (defScope st_evaluated) a.f_evaluated cdv A outer s H E) (fun c d _ H => E c d H) mask_evaluated (defBody st_evaluated) (b_evaluated a.ca) :=
  have sc := sc_evaluated
  (dss_cons (ds_expr (de_call G_check_arguments tk (hr.mono (by omega)) rfl T.m_check_arguments T.F_check_arguments.kp T.b_check_arguments (dos_cons (do_m (de_v 0)) (dos_cons (do_m (de_v 1)) dos_nil))))
  (dss_cons (ds_set (i := 3) sc.nd rfl (by first | exact Or.inl rfl | exact Or.inr rfl) (de_mk T.mk_Evaluation G_Evaluation___init__ tk (hr.mono (by omega)) rfl T.mgC_Evaluation T.b_Evaluation___init__ (dos_cons (do_m (de_v 2)) dos_nil)))
  (dss_cons (ds_set (i := 4) sc.nd rfl (by first | exact Or.inl rfl | exact Or.inr rfl) (de_mt (do_n 3) T.cl_Evaluation T.me_Evaluation_apply G_Evaluation_apply tk (hr.mono (by omega)) T.b_Evaluation_apply (dos_cons (do_m (de_v 0)) (dos_cons (do_m (de_v 1)) dos_nil))))
  (dss_one (ds_ret (de_tup (da_cons (de_v 4) (da_cons (de_fld (do_n 3) T.cl_Evaluation T.na_Evaluation_count) da_nil))))))))
theorem ok_evaluated (T : Txt P K mg a) {k : Nat} {k_check_arguments : Nat} (h_check_arguments : k_check_arguments ≤ k) (G_check_arguments : FnOk P w K mg base (L2.CX P w) k_check_arguments a.f_check_arguments a.d_check_arguments ["function", "arguments"] (spOf K 2 (m_check_arguments a.ca))) {k_Evaluation___init__ : Nat} (h_Evaluation___init__ : k_Evaluation___init__ + 1 ≤ k) (G_Evaluation___init__ : FnOk P w K mg base (L2.CX P w) k_Evaluation___init__ a.f_Evaluation___init__ a.d_Evaluation___init__ ["self", "limit"] (spOf K 2 (m_Evaluation___init__ a.ca))) {k_Evaluation_apply : Nat} (h_Evaluation_apply : k_Evaluation_apply ≤ k) (G_Evaluation_apply : FnOk P w K mg base (L2.CX P w) k_Evaluation_apply a.f_Evaluation_apply a.d_Evaluation_apply ["self", "function", "arguments"] (spOf K 3 (m_Evaluation_apply a.ca 18))) : FnOk P w K mg base (L2.CX P w) (k + 1) a.f_evaluated a.d_evaluated ["function", "arguments", "limit"] (spOf K 3 (m_evaluated a.ca)) := fn_ok T.F_evaluated sc_evaluated rfl (fun cdv A outer s H E hcd hr tk hp => d_evaluated T h_check_arguments G_check_arguments h_Evaluation___init__ G_Evaluation___init__ h_Evaluation_apply G_Evaluation_apply hcd hr tk hp) (is_evaluated a.ca)

theorem sc_value : FnScope N_value ["function", "arguments", "limit"] (defScope st_value) := ⟨rfl, rfl, rfl, by decide +kernel, rfl, by decide +kernel, by decide +kernel⟩
set_option maxHeartbeats 4000000 in
theorem d_value (T : Txt P K mg a) {k : Nat} {k_evaluated : Nat} (h_evaluated : k_evaluated ≤ k) (G_evaluated : FnOk P w K mg base (L2.CX P w) k_evaluated a.f_evaluated a.d_evaluated ["function", "arguments", "limit"] (spOf K 3 (m_evaluated a.ca))) {cdv : Value} {A : Around} {outer : List Env} {s : Shared} {H : Hp} {E : XK} (hcd : a.d_value.code = cdv) (hr : Room k (A.deeper (envOfC "value" (defScope st_value) s.heap.objs.size a.f_value cdv))) (tk : Takes (cxOf (L2.CX P w) P w K mg base N_value "value" (defScope st_value) a.f_value cdv A outer s H E) (fun c d _ H => E c d H))
    (hp : PassesOwn (model P w) (A.deeper (envOfC "value" (defScope st_value) s.heap.objs.size a.f_value cdv)) (envOfC "value" (defScope st_value) s.heap.objs.size a.f_value cdv) (cxOf (L2.CX P w) P w K mg base N_value "value" (defScope st_value) a.f_value cdv A outer s H E).xe) :
    DSs (cxOf (L2.CX P w) P w K mg base N_value "value" (defScope st_value) a.f_value cdv A outer s H E) (fun c d _ H => E c d H) mask_value (defBody st_value) (b_value a.ca) :=
  have sc := sc_value
  (dss_one (ds_ret (de_ix o_ix (do_m (de_call G_evaluated tk (hr.mono (by omega)) rfl T.m_evaluated T.F_evaluated.kp T.b_evaluated (dos_cons (do_m (de_v 0)) (dos_cons (do_m (de_v 1)) (dos_cons (do_m (de_v 2)) dos_nil))))) (do_m de_int))))
theorem ok_value (T : Txt P K mg a) {k : Nat} {k_evaluated : Nat} (h_evaluated : k_evaluated ≤ k) (G_evaluated : FnOk P w K mg base (L2.CX P w) k_evaluated a.f_evaluated a.d_evaluated ["function", "arguments", "limit"] (spOf K 3 (m_evaluated a.ca))) : FnOk P w K mg base (L2.CX P w) (k + 1) a.f_value a.d_value ["function", "arguments", "limit"] (spOf K 3 (m_value a.ca)) := fn_ok T.F_value sc_value rfl (fun cdv A outer s H E hcd hr tk hp => d_value T h_evaluated G_evaluated hcd hr tk hp) (is_value a.ca)

theorem sc_applications : FnScope N_applications ["function", "arguments", "limit"] (defScope st_applications) := ⟨rfl, rfl, rfl, by decide +kernel, rfl, by decide +kernel, by decide +kernel⟩
set_option maxHeartbeats 4000000 in
theorem d_applications (T : Txt P K mg a) {k : Nat} {k_evaluated : Nat} (h_evaluated : k_evaluated ≤ k) (G_evaluated : FnOk P w K mg base (L2.CX P w) k_evaluated a.f_evaluated a.d_evaluated ["function", "arguments", "limit"] (spOf K 3 (m_evaluated a.ca))) {cdv : Value} {A : Around} {outer : List Env} {s : Shared} {H : Hp} {E : XK} (hcd : a.d_applications.code = cdv) (hr : Room k (A.deeper (envOfC "applications" (defScope st_applications) s.heap.objs.size a.f_applications cdv))) (tk : Takes (cxOf (L2.CX P w) P w K mg base N_applications "applications" (defScope st_applications) a.f_applications cdv A outer s H E) (fun c d _ H => E c d H))
    (hp : PassesOwn (model P w) (A.deeper (envOfC "applications" (defScope st_applications) s.heap.objs.size a.f_applications cdv)) (envOfC "applications" (defScope st_applications) s.heap.objs.size a.f_applications cdv) (cxOf (L2.CX P w) P w K mg base N_applications "applications" (defScope st_applications) a.f_applications cdv A outer s H E).xe) :
    DSs (cxOf (L2.CX P w) P w K mg base N_applications "applications" (defScope st_applications) a.f_applications cdv A outer s H E) (fun c d _ H => E c d H) mask_applications (defBody st_applications) (b_applications a.ca) :=
  have sc := sc_applications
  (dss_one (ds_ret (de_ix o_ix (do_m (de_call G_evaluated tk (hr.mono (by omega)) rfl T.m_evaluated T.F_evaluated.kp T.b_evaluated (dos_cons (do_m (de_v 0)) (dos_cons (do_m (de_v 1)) (dos_cons (do_m (de_v 2)) dos_nil))))) (do_m de_int))))
theorem ok_applications (T : Txt P K mg a) {k : Nat} {k_evaluated : Nat} (h_evaluated : k_evaluated ≤ k) (G_evaluated : FnOk P w K mg base (L2.CX P w) k_evaluated a.f_evaluated a.d_evaluated ["function", "arguments", "limit"] (spOf K 3 (m_evaluated a.ca))) : FnOk P w K mg base (L2.CX P w) (k + 1) a.f_applications a.d_applications ["function", "arguments", "limit"] (spOf K 3 (m_applications a.ca)) := fn_ok T.F_applications sc_applications rfl (fun cdv A outer s H E hcd hr tk hp => d_applications T h_evaluated G_evaluated hcd hr tk hp) (is_applications a.ca)

theorem sc__law_told : FnScope N__law_told ["_law_thing", "_law_arguments", "_law_limit", "_law_way"] (defScope st__law_told) := ⟨rfl, rfl, rfl, by decide +kernel, rfl, by decide +kernel, by decide +kernel⟩
set_option maxHeartbeats 4000000 in
theorem d__law_told (T : Txt P K mg a) {k : Nat} {k_value : Nat} (h_value : k_value ≤ k) (G_value : FnOk P w K mg base (L2.CX P w) k_value a.f_value a.d_value ["function", "arguments", "limit"] (spOf K 3 (m_value a.ca))) {k_applications : Nat} (h_applications : k_applications ≤ k) (G_applications : FnOk P w K mg base (L2.CX P w) k_applications a.f_applications a.d_applications ["function", "arguments", "limit"] (spOf K 3 (m_applications a.ca))) {cdv : Value} {A : Around} {outer : List Env} {s : Shared} {H : Hp} {E : XK} (hcd : a.d__law_told.code = cdv) (hr : Room k (A.deeper (envOfC "_law_told" (defScope st__law_told) s.heap.objs.size a.f__law_told cdv))) (tk : Takes (cxOf (L2.CX P w) P w K mg base N__law_told "_law_told" (defScope st__law_told) a.f__law_told cdv A outer s H E) (fun c d _ H => E c d H))
    (hp : PassesOwn (model P w) (A.deeper (envOfC "_law_told" (defScope st__law_told) s.heap.objs.size a.f__law_told cdv)) (envOfC "_law_told" (defScope st__law_told) s.heap.objs.size a.f__law_told cdv) (cxOf (L2.CX P w) P w K mg base N__law_told "_law_told" (defScope st__law_told) a.f__law_told cdv A outer s H E).xe) :
    DSs (cxOf (L2.CX P w) P w K mg base N__law_told "_law_told" (defScope st__law_told) a.f__law_told cdv A outer s H E) (fun c d _ H => E c d H) mask__law_told (defBody st__law_told) (b__law_told a.ca) :=
  have sc := sc__law_told
  (dss_one (ds_tryA (i := 4) (t := [(.ref a.ca.c_BadArgument, false), (.ref a.ca.c_InvalidFunction, false), (.ref a.ca.c_TooLong, true)]) rfl rfl sc.nd rfl rfl (by decide) ⟨rfl, by decide, .inl T.mgX_TooLong⟩ tk (List.forall_mem_cons.mpr ⟨PySem.W.exm_ref T.bx_TooLong T.hx_TooLong T.tx_TooLong T.sub_BadArgument_TooLong, List.forall_mem_cons.mpr ⟨PySem.W.exm_ref T.bx_TooLong T.hx_TooLong T.tx_TooLong T.sub_InvalidFunction_TooLong, List.forall_mem_cons.mpr ⟨PySem.W.exm_ref T.bx_TooLong T.hx_TooLong T.tx_TooLong T.sub_TooLong_TooLong, fun _ h => nomatch h⟩⟩⟩) (fun W pn xe tk hp => (dss_cons (ds_if (dt_cmp (o_eq hr.units) (do_m (de_v 3)) (do_m de_int)) (dss_one (ds_ret (de_tup (da_cons de_str (da_cons (de_callKw G_value tk (hr.mono (by omega)) rfl T.m_value T.F_value.kp T.kb_value rfl (dos_cons (do_m (de_v 0)) (dos_cons (do_m (de_v 1)) dos_nil)) (do_m (de_v 2)) rfl) da_nil))))) dss_nil)
  (dss_one (ds_ret (de_tup (da_cons de_str (da_cons (de_callKw G_applications tk (hr.mono (by omega)) rfl T.m_applications T.F_applications.kp T.kb_applications rfl (dos_cons (do_m (de_v 0)) (dos_cons (do_m (de_v 1)) dos_nil)) (do_m (de_v 2)) rfl) da_nil))))))) (fun ea oe ecls ed pn hz hf fs => (dss_one (ds_ret (de_tup (da_cons de_str (da_cons (de_xf T.xf_TooLong T.nx_TooLong_limit hz hf rfl (Or.inl rfl)) da_nil))))))))
theorem ok__law_told (T : Txt P K mg a) {k : Nat} {k_value : Nat} (h_value : k_value ≤ k) (G_value : FnOk P w K mg base (L2.CX P w) k_value a.f_value a.d_value ["function", "arguments", "limit"] (spOf K 3 (m_value a.ca))) {k_applications : Nat} (h_applications : k_applications ≤ k) (G_applications : FnOk P w K mg base (L2.CX P w) k_applications a.f_applications a.d_applications ["function", "arguments", "limit"] (spOf K 3 (m_applications a.ca))) : FnOk P w K mg base (L2.CX P w) (k + 1) a.f__law_told a.d__law_told ["_law_thing", "_law_arguments", "_law_limit", "_law_way"] (spOf K 4 (m__law_told a.ca)) := fn_ok T.F__law_told sc__law_told rfl (fun cdv A outer s H E hcd hr tk hp => d__law_told T h_value G_value h_applications G_applications hcd hr tk hp) (is__law_told a.ca)

theorem sc__law_like : FnScope N__law_like ["_law_actual", "_law_due"] (defScope st__law_like) := ⟨rfl, rfl, rfl, by decide +kernel, rfl, by decide +kernel, by decide +kernel⟩
set_option maxHeartbeats 4000000 in
theorem d__law_like (T : Txt P K mg a) {k : Nat} {mself : FM} {kself : Nat} (hself : kself ≤ k) (Gself : FnOk P w K mg base (L2.CX P w) kself a.f__law_like a.d__law_like ["_law_actual", "_law_due"] (spOf K 2 mself)) {cdv : Value} {A : Around} {outer : List Env} {s : Shared} {H : Hp} {E : XK} (hcd : a.d__law_like.code = cdv) (hr : Room k (A.deeper (envOfC "_law_like" (defScope st__law_like) s.heap.objs.size a.f__law_like cdv))) (tk : Takes (cxOf (L2.CX P w) P w K mg base N__law_like "_law_like" (defScope st__law_like) a.f__law_like cdv A outer s H E) (fun c d _ H => E c d H))
    (hp : PassesOwn (model P w) (A.deeper (envOfC "_law_like" (defScope st__law_like) s.heap.objs.size a.f__law_like cdv)) (envOfC "_law_like" (defScope st__law_like) s.heap.objs.size a.f__law_like cdv) (cxOf (L2.CX P w) P w K mg base N__law_like "_law_like" (defScope st__law_like) a.f__law_like cdv A outer s H E).xe) :
    DSs (cxOf (L2.CX P w) P w K mg base N__law_like "_law_like" (defScope st__law_like) a.f__law_like cdv A outer s H E) (fun c d _ H => E c d H) mask__law_like (defBody st__law_like) (b__law_like mself) :=
  have sc := sc__law_like
  (dss_cons (ds_if (dt_cmp o_isN (do_n 1) (do_m de_non) ) (dss_one (ds_ret (de_cmp o_isN (do_n 0) (do_m de_non) ))) dss_nil)
  (dss_pc (dss_cons (ds_if (dt_of (de_isa isa_bool rfl T.n_isinstance (do_n 1) rfl T.n_bool (by decide +kernel))) (dss_one (ds_ret (de_and (de_isa isa_bool rfl T.n_isinstance (do_n 0) rfl T.n_bool (by decide +kernel)) (de_one (de_cmp (o_eq hr.units) (do_n 0) (do_n 1)))))) dss_nil)
  (dss_pc (dss_cons (ds_if (dt_of (de_isa isa_str rfl T.n_isinstance (do_n 1) rfl T.n_str (by decide +kernel))) (dss_one (ds_ret (de_and (de_isa isa_str rfl T.n_isinstance (do_n 0) rfl T.n_str (by decide +kernel)) (de_one (de_cmp (o_eq hr.units) (do_n 0) (do_n 1)))))) dss_nil)
  (dss_pc (dss_cons (ds_if (dt_of (de_isa isa_int rfl T.n_isinstance (do_n 1) rfl T.n_int (by decide +kernel))) (dss_one (ds_ret (de_and (de_isa isa_int rfl T.n_isinstance (do_n 0) rfl T.n_int (by decide +kernel)) (de_and (de_not (de_isa isa_bool rfl T.n_isinstance (do_n 0) rfl T.n_bool (by decide +kernel))) (de_one (de_cmp (o_eq hr.units) (do_n 0) (do_n 1))))))) dss_nil)
  (dss_pc (dss_cons (ds_if (dt_w (dw_or (dt_cmp (o_ne hr.units) (do_m (de_isa isa_list rfl T.n_isinstance (do_n 1) rfl T.n_list (by decide +kernel))) (do_m (de_isa isa_list rfl T.n_isinstance (do_n 0) rfl T.n_list (by decide +kernel)))) (dw_or1 (dt_cmp (o_ne hr.units) (do_m (de_isa isa_tuple rfl T.n_isinstance (do_n 1) rfl T.n_tuple (by decide +kernel))) (do_m (de_isa isa_tuple rfl T.n_isinstance (do_n 0) rfl T.n_tuple (by decide +kernel))))))) (dss_one (ds_ret de_bl)) dss_nil)
  (dss_pc (dss_cons (ds_if (dt_cmp (o_ne hr.units) (do_m (de_callB c_len rfl T.n_len (by decide +kernel) (dos_cons (do_n 0) dos_nil))) (do_m (de_callB c_len rfl T.n_len (by decide +kernel) (dos_cons (do_n 1) dos_nil)))) (dss_one (ds_ret de_bl)) dss_nil)
  (dss_pc (dss_one (ds_ret (de_callB (c_all rfl) rfl T.n_all (by decide +kernel) (dos_cons (do_m (de_lc (own := [("_law_k", 2)]) (mask := [true, true, false]) rfl sc.nd (di_r1 rfl T.n_range (da_cons (de_callB c_len rfl T.n_len (by decide +kernel) (dos_cons (do_n 1) dos_nil)) da_nil)) (blkOk_by (N := N__law_like) rfl) (fun _ _ _ _ _ => (dg_name sc.nd rfl (by first | exact Or.inl rfl | exact Or.inr rfl))) (fun _ _ _ _ _ => dts_nil) (fun _ _ _ _ _ => (de_call Gself takes0 (hr.mono (by omega)) rfl T.m__law_like T.F__law_like.kp T.b__law_like (dos_cons (do_m (de_ix o_ix (do_n 0) (do_m (de_v 2)))) (dos_cons (do_m (de_ix o_ix (do_n 1) (do_m (de_v 2)))) dos_nil)))))) dos_nil))))))))))))))))
theorem ok__law_like (T : Txt P K mg a) {k : Nat} : ∀ n : Nat, FnOk P w K mg base (L2.CX P w) (k + 1 + n) a.f__law_like a.d__law_like ["_law_actual", "_law_due"] (spOf K 2 (m__law_like n))
  | 0 => fn_false fun ms R XR h => by unfold m__law_like at h; exact h
  | n + 1 => (fn_ok (k := k + 1 + n + 0) T.F__law_like sc__law_like rfl (fun cdv A outer s H E hcd hr tk hp => d__law_like (k := k + 1 + n + 0) T (kself := k + 1 + n) (by omega) (ok__law_like T n) hcd hr tk hp) (is__law_like n)).mono (by omega)

theorem sc_law : FnScope N_law ["_law_script"] (defScope st_law) := ⟨rfl, rfl, rfl, by decide +kernel, rfl, by decide +kernel, by decide +kernel⟩
set_option maxHeartbeats 4000000 in
theorem d_law (T : Txt P K mg a) {k : Nat} {k__law_cell : Nat} (h__law_cell : k__law_cell ≤ k) (G__law_cell : FnOk P w K mg base (L2.CX P w) k__law_cell a.f__law_cell a.d__law_cell ["_law_script", "_law_k"] (spOf K 2 m__law_cell)) {k__law_draws : Nat} (h__law_draws : k__law_draws ≤ k) (G__law_draws : FnOk P w K mg base (L2.CX P w) k__law_draws a.f__law_draws a.d__law_draws ["_law_cell_here", "_law_count_here"] (spOf K 2 m__law_draws)) {k__law_fun : Nat} (h__law_fun : k__law_fun ≤ k) (G__law_fun : FnOk P w K mg base (L2.CX P w) k__law_fun a.f__law_fun a.d__law_fun ["_law_draws_here", "_law_at", "_law_many", "_law_deep_here"] (spOf K 4 (m__law_fun 4))) {k__law_is_fun : Nat} (h__law_is_fun : k__law_is_fun ≤ k) (G__law_is_fun : FnOk P w K mg base (L2.CX P w) k__law_is_fun a.f__law_is_fun a.d__law_is_fun ["_law_thing"] (spOf K 1 m__law_is_fun)) {k__law_arity : Nat} (h__law_arity : k__law_arity ≤ k) (G__law_arity : FnOk P w K mg base (L2.CX P w) k__law_arity a.f__law_arity a.d__law_arity ["_law_thing"] (spOf K 1 (m__law_arity 18))) {k__law_apply : Nat} (h__law_apply : k__law_apply ≤ k) (G__law_apply : FnOk P w K mg base (L2.CX P w) k__law_apply a.f__law_apply a.d__law_apply ["_law_thing", "_law_arguments", "_law_left"] (spOf K 3 (m__law_apply 18))) {k__law_told : Nat} (h__law_told : k__law_told ≤ k) (G__law_told : FnOk P w K mg base (L2.CX P w) k__law_told a.f__law_told a.d__law_told ["_law_thing", "_law_arguments", "_law_limit", "_law_way"] (spOf K 4 (m__law_told a.ca))) {k__law_like : Nat} (h__law_like : k__law_like ≤ k) (G__law_like : FnOk P w K mg base (L2.CX P w) k__law_like a.f__law_like a.d__law_like ["_law_actual", "_law_due"] (spOf K 2 (m__law_like 8))) {cdv : Value} {A : Around} {outer : List Env} {s : Shared} {H : Hp} {E : XK} (hcd : a.d_law.code = cdv) (hr : Room k (A.deeper (envOfC "law" (defScope st_law) s.heap.objs.size a.f_law cdv))) (tk : Takes (cxOf (L2.CX P w) P w K mg base N_law "law" (defScope st_law) a.f_law cdv A outer s H E) (fun c d _ H => E c d H))
    (hp : PassesOwn (model P w) (A.deeper (envOfC "law" (defScope st_law) s.heap.objs.size a.f_law cdv)) (envOfC "law" (defScope st_law) s.heap.objs.size a.f_law cdv) (cxOf (L2.CX P w) P w K mg base N_law "law" (defScope st_law) a.f_law cdv A outer s H E).xe) :
    DSs (cxOf (L2.CX P w) P w K mg base N_law "law" (defScope st_law) a.f_law cdv A outer s H E) (fun c d _ H => E c d H) mask_law (defBody st_law) (b_law a.ca) :=
  have sc := sc_law
  (dss_cons (ds_for hp rfl (di_r1 rfl T.n_range (da_cons de_int da_nil)) (dg_name sc.nd rfl (by first | exact Or.inl rfl | exact Or.inr rfl)) (dss_cons (ds_set (i := 2) sc.nd rfl (by first | exact Or.inl rfl | exact Or.inr rfl) (de_call G__law_draws tk (hr.mono (by omega)) rfl T.m__law_draws T.F__law_draws.kp T.b__law_draws (dos_cons (do_m (de_call G__law_cell tk (hr.mono (by omega)) rfl T.m__law_cell T.F__law_cell.kp T.b__law_cell (dos_cons (do_m (de_v 0)) (dos_cons (do_m (de_v 1)) dos_nil)))) (dos_cons (do_m de_int) dos_nil))))
  (dss_cons (ds_set (i := 3) sc.nd rfl (by first | exact Or.inl rfl | exact Or.inr rfl) (de_call G__law_fun tk (hr.mono (by omega)) rfl T.m__law_fun T.F__law_fun.kp T.b__law_fun (dos_cons (do_n 2) (dos_cons (do_m (de_v 1)) (dos_cons (do_m (de_op o_mod (do_m (de_ix o_ix (do_n 2) (do_m de_int))) (do_m de_int))) (dos_cons (do_m (de_op o_add (do_m de_int) (do_m (de_op o_mod (do_m (de_ix o_ix (do_n 2) (do_m de_int))) (do_m de_int))))) dos_nil))))))
  (dss_cons (ds_if (dt_not (dt_of (de_call G__law_is_fun tk (hr.mono (by omega)) rfl T.m__law_is_fun T.F__law_is_fun.kp T.b__law_is_fun (dos_cons (do_m (de_v 3)) dos_nil)))) (dss_one (ds_ret de_bl)) dss_nil)
  (dss_cons (ds_set (i := 4) sc.nd rfl (by first | exact Or.inl rfl | exact Or.inr rfl) (de_callTy c_tuple rfl T.n_tuple (by decide +kernel) (dos_cons (do_m (de_lc (own := [("_law_k", 8)]) (mask := [true, true, true, true, true, true, true, true, false]) rfl sc.nd (di_r1 rfl T.n_range (da_cons (de_call G__law_arity tk (hr.mono (by omega)) rfl T.m__law_arity T.F__law_arity.kp T.b__law_arity (dos_cons (do_m (de_v 3)) dos_nil)) da_nil)) (blkOk_by (N := N_law) rfl) (fun _ _ _ _ _ => (dg_name sc.nd rfl (by first | exact Or.inl rfl | exact Or.inr rfl))) (fun _ _ _ _ _ => dts_nil) (fun _ _ _ _ _ => (de_op o_mod (do_m (de_ix o_ix (do_n 2) (do_m (de_op o_add (do_m de_int) (do_m (de_v 8)))))) (do_m de_int))))) dos_nil)))
  (dss_cons (ds_set (i := 5) sc.nd rfl (by first | exact Or.inl rfl | exact Or.inr rfl) (de_call G__law_apply tk (hr.mono (by omega)) rfl T.m__law_apply T.F__law_apply.kp T.b__law_apply (dos_cons (do_m (de_v 3)) (dos_cons (do_m (de_v 4)) (dos_cons (do_m de_int) dos_nil)))))
  (dss_one (ds_if (dt_cmp o_isN (do_n 5) (do_m de_non) ) (dss_one (ds_for hp rfl (di_r1 rfl T.n_range (da_cons de_int da_nil)) (dg_name sc.nd rfl (by first | exact Or.inl rfl | exact Or.inr rfl)) (dss_one (ds_if (dt_not (dt_of (de_call G__law_like tk (hr.mono (by omega)) rfl T.m__law_like T.F__law_like.kp T.b__law_like (dos_cons (do_m (de_call G__law_told tk (hr.mono (by omega)) rfl T.m__law_told T.F__law_told.kp T.b__law_told (dos_cons (do_m (de_v 3)) (dos_cons (do_m (de_v 4)) (dos_cons (do_m de_int) (dos_cons (do_m (de_v 6)) dos_nil)))))) (dos_cons (do_m (de_tup (da_cons de_str (da_cons de_int da_nil)))) dos_nil))))) (dss_one (ds_ret de_bl)) dss_nil)))) (dss_cons (ds_set (i := 7) sc.nd rfl (by first | exact Or.inl rfl | exact Or.inr rfl) (de_op o_sub (do_m de_int) (do_m (de_ix o_ix (do_n 5) (do_m de_int)))))
  (dss_cons (ds_if (dt_not (dt_of (de_call G__law_like tk (hr.mono (by omega)) rfl T.m__law_like T.F__law_like.kp T.b__law_like (dos_cons (do_m (de_call G__law_told tk (hr.mono (by omega)) rfl T.m__law_told T.F__law_told.kp T.b__law_told (dos_cons (do_m (de_v 3)) (dos_cons (do_m (de_v 4)) (dos_cons (do_m (de_v 7)) (dos_cons (do_m de_int) dos_nil)))))) (dos_cons (do_m (de_tup (da_cons de_str (da_cons (de_ix o_ix (do_n 5) (do_m de_int)) da_nil)))) dos_nil))))) (dss_one (ds_ret de_bl)) dss_nil)
  (dss_cons (ds_if (dt_not (dt_of (de_call G__law_like tk (hr.mono (by omega)) rfl T.m__law_like T.F__law_like.kp T.b__law_like (dos_cons (do_m (de_call G__law_told tk (hr.mono (by omega)) rfl T.m__law_told T.F__law_told.kp T.b__law_told (dos_cons (do_m (de_v 3)) (dos_cons (do_m (de_v 4)) (dos_cons (do_m (de_v 7)) (dos_cons (do_m de_int) dos_nil)))))) (dos_cons (do_m (de_tup (da_cons de_str (da_cons (de_v 7) da_nil)))) dos_nil))))) (dss_one (ds_ret de_bl)) dss_nil)
  (dss_one (ds_if (dt_not (dt_of (de_call G__law_like tk (hr.mono (by omega)) rfl T.m__law_like T.F__law_like.kp T.b__law_like (dos_cons (do_m (de_call G__law_told tk (hr.mono (by omega)) rfl T.m__law_told T.F__law_told.kp T.b__law_told (dos_cons (do_m (de_v 3)) (dos_cons (do_m (de_v 4)) (dos_cons (do_m (de_op o_sub (do_m (de_v 7)) (do_m de_int))) (dos_cons (do_m (de_op o_mod (do_m (de_ix o_ix (do_n 2) (do_m de_int))) (do_m de_int))) dos_nil)))))) (dos_cons (do_m (de_tup (da_cons de_str (da_cons (de_op o_sub (do_m (de_v 7)) (do_m de_int)) da_nil)))) dos_nil))))) (dss_one (ds_ret de_bl)) dss_nil)))))))))))))
  (dss_one (ds_ret de_bl)))
theorem ok_law (T : Txt P K mg a) {k : Nat} {k__law_cell : Nat} (h__law_cell : k__law_cell ≤ k) (G__law_cell : FnOk P w K mg base (L2.CX P w) k__law_cell a.f__law_cell a.d__law_cell ["_law_script", "_law_k"] (spOf K 2 m__law_cell)) {k__law_draws : Nat} (h__law_draws : k__law_draws ≤ k) (G__law_draws : FnOk P w K mg base (L2.CX P w) k__law_draws a.f__law_draws a.d__law_draws ["_law_cell_here", "_law_count_here"] (spOf K 2 m__law_draws)) {k__law_fun : Nat} (h__law_fun : k__law_fun ≤ k) (G__law_fun : FnOk P w K mg base (L2.CX P w) k__law_fun a.f__law_fun a.d__law_fun ["_law_draws_here", "_law_at", "_law_many", "_law_deep_here"] (spOf K 4 (m__law_fun 4))) {k__law_is_fun : Nat} (h__law_is_fun : k__law_is_fun ≤ k) (G__law_is_fun : FnOk P w K mg base (L2.CX P w) k__law_is_fun a.f__law_is_fun a.d__law_is_fun ["_law_thing"] (spOf K 1 m__law_is_fun)) {k__law_arity : Nat} (h__law_arity : k__law_arity ≤ k) (G__law_arity : FnOk P w K mg base (L2.CX P w) k__law_arity a.f__law_arity a.d__law_arity ["_law_thing"] (spOf K 1 (m__law_arity 18))) {k__law_apply : Nat} (h__law_apply : k__law_apply ≤ k) (G__law_apply : FnOk P w K mg base (L2.CX P w) k__law_apply a.f__law_apply a.d__law_apply ["_law_thing", "_law_arguments", "_law_left"] (spOf K 3 (m__law_apply 18))) {k__law_told : Nat} (h__law_told : k__law_told ≤ k) (G__law_told : FnOk P w K mg base (L2.CX P w) k__law_told a.f__law_told a.d__law_told ["_law_thing", "_law_arguments", "_law_limit", "_law_way"] (spOf K 4 (m__law_told a.ca))) {k__law_like : Nat} (h__law_like : k__law_like ≤ k) (G__law_like : FnOk P w K mg base (L2.CX P w) k__law_like a.f__law_like a.d__law_like ["_law_actual", "_law_due"] (spOf K 2 (m__law_like 8))) : FnOk P w K mg base (L2.CX P w) (k + 1) a.f_law a.d_law ["_law_script"] (spOf K 1 m_law) := fn_ok T.F_law sc_law rfl (fun cdv A outer s H E hcd hr tk hp => d_law T h__law_cell G__law_cell h__law_draws G__law_draws h__law_fun G__law_fun h__law_is_fun G__law_is_fun h__law_arity G__law_arity h__law_apply G__law_apply h__law_told G__law_told h__law_like G__law_like hcd hr tk hp) (is_law a.ca)

theorem law_ok (T : Txt P K mg a) (TB : TxB mg base a) : FnOk P w K mg base (L2.CX P w) 101 a.f_law a.d_law ["_law_script"] (spOf K 1 m_law) := by
  have G__law_cell : FnOk P w K mg base (L2.CX P w) 1 a.f__law_cell a.d__law_cell ["_law_script", "_law_k"] (spOf K 2 m__law_cell) := ok__law_cell T (k := 0)
  have G__law_draws : FnOk P w K mg base (L2.CX P w) 1 a.f__law_draws a.d__law_draws ["_law_cell_here", "_law_count_here"] (spOf K 2 m__law_draws) := ok__law_draws T (k := 0)
  have G__law_fun : FnOk P w K mg base (L2.CX P w) 5 a.f__law_fun a.d__law_fun ["_law_draws_here", "_law_at", "_law_many", "_law_deep_here"] (spOf K 4 (m__law_fun 4)) := ok__law_fun T (k := 0) 4
  have G__law_pieces : FnOk P w K mg base (L2.CX P w) 1 a.f__law_pieces a.d__law_pieces ["_law_thing"] (spOf K 1 m__law_pieces) := ok__law_pieces T (k := 0)
  have G__law_deep : FnOk P w K mg base (L2.CX P w) 20 a.f__law_deep a.d__law_deep ["_law_thing"] (spOf K 1 (m__law_deep 18)) := ok__law_deep T (k := 1) (k__law_pieces := 1) (by decide) G__law_pieces 18
  have G__law_count : FnOk P w K mg base (L2.CX P w) 20 a.f__law_count a.d__law_count ["_law_thing"] (spOf K 1 (m__law_count 18)) := ok__law_count T (k := 1) (k__law_pieces := 1) (by decide) G__law_pieces 18
  have G__law_arity : FnOk P w K mg base (L2.CX P w) 19 a.f__law_arity a.d__law_arity ["_law_thing"] (spOf K 1 (m__law_arity 18)) := ok__law_arity T (k := 0) 18
  have G__law_fits_well : FnOk P w K mg base (L2.CX P w) 38 a.f__law_fits_well a.d__law_fits_well ["_law_thing"] (spOf K 1 (m__law_fits_well 18)) := ok__law_fits_well T (k := 19) (k__law_pieces := 1) (by decide) G__law_pieces (k__law_arity := 19) (by decide) G__law_arity 18
  have G__law_is_fun : FnOk P w K mg base (L2.CX P w) 39 a.f__law_is_fun a.d__law_is_fun ["_law_thing"] (spOf K 1 m__law_is_fun) := ok__law_is_fun T (k := 38) (k__law_deep := 20) (by decide) G__law_deep (k__law_count := 20) (by decide) G__law_count (k__law_fits_well := 38) (by decide) G__law_fits_well
  have G__law_apply : FnOk P w K mg base (L2.CX P w) 19 a.f__law_apply a.d__law_apply ["_law_thing", "_law_arguments", "_law_left"] (spOf K 3 (m__law_apply 18)) := ok__law_apply T (k := 0) 18
  have G_parts : FnOk P w K mg base (L2.CX P w) 1 a.f_parts a.d_parts ["function"] (spOf K 1 m_parts) := ok_parts T (k := 0)
  have G_depth : FnOk P w K mg base (L2.CX P w) 20 a.f_depth a.d_depth ["function"] (spOf K 1 (m_depth 18)) := ok_depth T (k := 1) (k_parts := 1) (by decide) G_parts 18
  have G_count_parts : FnOk P w K mg base (L2.CX P w) 20 a.f_count_parts a.d_count_parts ["function"] (spOf K 1 (m_count_parts 18)) := ok_count_parts T (k := 1) (k_parts := 1) (by decide) G_parts 18
  have G_arity : FnOk P w K mg base (L2.CX P w) 19 a.f_arity a.d_arity ["function"] (spOf K 1 (m_arity 18)) := ok_arity T (k := 0) 18
  have G_has_right_arities : FnOk P w K mg base (L2.CX P w) 95 a.f_has_right_arities a.d_has_right_arities ["function"] (spOf K 1 (m_has_right_arities 18)) := ok_has_right_arities T (k := 22) (by decide) TB (k_parts := 1) (by decide) G_parts (k_arity := 19) (by decide) G_arity 18
  have G_is_function : FnOk P w K mg base (L2.CX P w) 96 a.f_is_function a.d_is_function ["thing"] (spOf K 1 m_is_function) := ok_is_function T (k := 95) (k_depth := 20) (by decide) G_depth (k_count_parts := 20) (by decide) G_count_parts (k_has_right_arities := 95) (by decide) G_has_right_arities
  have G_check_arguments : FnOk P w K mg base (L2.CX P w) 97 a.f_check_arguments a.d_check_arguments ["function", "arguments"] (spOf K 2 (m_check_arguments a.ca)) := ok_check_arguments T (k := 96) (by decide) TB (k_is_function := 96) (by decide) G_is_function (k_arity := 19) (by decide) G_arity
  have G_Evaluation___init__ : FnOk P w K mg base (L2.CX P w) 1 a.f_Evaluation___init__ a.d_Evaluation___init__ ["self", "limit"] (spOf K 2 (m_Evaluation___init__ a.ca)) := ok_Evaluation___init__ T (k := 0)
  have G_Evaluation_apply : FnOk P w K mg base (L2.CX P w) 40 a.f_Evaluation_apply a.d_Evaluation_apply ["self", "function", "arguments"] (spOf K 3 (m_Evaluation_apply a.ca 18)) := ok_Evaluation_apply T (k := 3) (by decide) TB 18
  have G_evaluated : FnOk P w K mg base (L2.CX P w) 98 a.f_evaluated a.d_evaluated ["function", "arguments", "limit"] (spOf K 3 (m_evaluated a.ca)) := ok_evaluated T (k := 97) (k_check_arguments := 97) (by decide) G_check_arguments (k_Evaluation___init__ := 1) (by decide) G_Evaluation___init__ (k_Evaluation_apply := 40) (by decide) G_Evaluation_apply
  have G_value : FnOk P w K mg base (L2.CX P w) 99 a.f_value a.d_value ["function", "arguments", "limit"] (spOf K 3 (m_value a.ca)) := ok_value T (k := 98) (k_evaluated := 98) (by decide) G_evaluated
  have G_applications : FnOk P w K mg base (L2.CX P w) 99 a.f_applications a.d_applications ["function", "arguments", "limit"] (spOf K 3 (m_applications a.ca)) := ok_applications T (k := 98) (k_evaluated := 98) (by decide) G_evaluated
  have G__law_told : FnOk P w K mg base (L2.CX P w) 100 a.f__law_told a.d__law_told ["_law_thing", "_law_arguments", "_law_limit", "_law_way"] (spOf K 4 (m__law_told a.ca)) := ok__law_told T (k := 99) (k_value := 99) (by decide) G_value (k_applications := 99) (by decide) G_applications
  have G__law_like : FnOk P w K mg base (L2.CX P w) 9 a.f__law_like a.d__law_like ["_law_actual", "_law_due"] (spOf K 2 (m__law_like 8)) := ok__law_like T (k := 0) 8
  have G_law : FnOk P w K mg base (L2.CX P w) 101 a.f_law a.d_law ["_law_script"] (spOf K 1 m_law) := ok_law T (k := 100) (k__law_cell := 1) (by decide) G__law_cell (k__law_draws := 1) (by decide) G__law_draws (k__law_fun := 5) (by decide) G__law_fun (k__law_is_fun := 39) (by decide) G__law_is_fun (k__law_arity := 19) (by decide) G__law_arity (k__law_apply := 19) (by decide) G__law_apply (k__law_told := 100) (by decide) G__law_told (k__law_like := 9) (by decide) G__law_like
  exact G_law
end

def dd__law_cell : He.DefD := ⟨("_law_cell", none), "_law_cell", "_law_cell", defArgs st__law_cell, defBody st__law_cell, defScope st__law_cell, [], []⟩
def dd__law_draws : He.DefD := ⟨("_law_draws", none), "_law_draws", "_law_draws", defArgs st__law_draws, defBody st__law_draws, defScope st__law_draws, [], []⟩
def dd__law_fun : He.DefD := ⟨("_law_fun", none), "_law_fun", "_law_fun", defArgs st__law_fun, defBody st__law_fun, defScope st__law_fun, [], []⟩
def dd__law_pieces : He.DefD := ⟨("_law_pieces", none), "_law_pieces", "_law_pieces", defArgs st__law_pieces, defBody st__law_pieces, defScope st__law_pieces, [], []⟩
def dd__law_deep : He.DefD := ⟨("_law_deep", none), "_law_deep", "_law_deep", defArgs st__law_deep, defBody st__law_deep, defScope st__law_deep, [], []⟩
def dd__law_count : He.DefD := ⟨("_law_count", none), "_law_count", "_law_count", defArgs st__law_count, defBody st__law_count, defScope st__law_count, [], []⟩
def dd__law_arity : He.DefD := ⟨("_law_arity", none), "_law_arity", "_law_arity", defArgs st__law_arity, defBody st__law_arity, defScope st__law_arity, [], []⟩
def dd__law_fits_well : He.DefD := ⟨("_law_fits_well", none), "_law_fits_well", "_law_fits_well", defArgs st__law_fits_well, defBody st__law_fits_well, defScope st__law_fits_well, [], []⟩
def dd__law_is_fun : He.DefD := ⟨("_law_is_fun", none), "_law_is_fun", "_law_is_fun", defArgs st__law_is_fun, defBody st__law_is_fun, defScope st__law_is_fun, [], []⟩
def dd__law_apply : He.DefD := ⟨("_law_apply", none), "_law_apply", "_law_apply", defArgs st__law_apply, defBody st__law_apply, defScope st__law_apply, [], []⟩
def dd_parts : He.DefD := ⟨("parts", none), "parts", "parts", defArgs st_parts, defBody st_parts, defScope st_parts, [], []⟩
def dd_depth : He.DefD := ⟨("depth", none), "depth", "depth", defArgs st_depth, defBody st_depth, defScope st_depth, [], []⟩
def dd_count_parts : He.DefD := ⟨("count_parts", none), "count_parts", "count_parts", defArgs st_count_parts, defBody st_count_parts, defScope st_count_parts, [], []⟩
def dd_arity : He.DefD := ⟨("arity", none), "arity", "arity", defArgs st_arity, defBody st_arity, defScope st_arity, [], []⟩
def dd_has_right_arities : He.DefD := ⟨("has_right_arities", none), "has_right_arities", "has_right_arities", defArgs st_has_right_arities, defBody st_has_right_arities, defScope st_has_right_arities, [], []⟩
def dd_is_function : He.DefD := ⟨("is_function", none), "is_function", "is_function", defArgs st_is_function, defBody st_is_function, defScope st_is_function, [], []⟩
def dd_check_arguments : He.DefD := ⟨("check_arguments", none), "check_arguments", "check_arguments", defArgs st_check_arguments, defBody st_check_arguments, defScope st_check_arguments, [], []⟩
def dd_Evaluation___init__ : He.DefD := ⟨("Evaluation", some "__init__"), "__init__", "Evaluation.__init__", defArgs st_Evaluation___init__, defBody st_Evaluation___init__, defScope st_Evaluation___init__, [], []⟩
def dd_Evaluation_repeat : He.DefD := ⟨("Evaluation", some "repeat"), "repeat", "Evaluation.repeat", defArgs st_Evaluation_repeat, defBody st_Evaluation_repeat, defScope st_Evaluation_repeat, [], []⟩
def dd_Evaluation_apply : He.DefD := ⟨("Evaluation", some "apply"), "apply", "Evaluation.apply", defArgs st_Evaluation_apply, defBody st_Evaluation_apply, defScope st_Evaluation_apply, [], []⟩
def dd_evaluated : He.DefD := ⟨("evaluated", none), "evaluated", "evaluated", defArgs st_evaluated, defBody st_evaluated, defScope st_evaluated, [], []⟩
def dd_value : He.DefD := ⟨("value", none), "value", "value", defArgs st_value, defBody st_value, defScope st_value, [], [("limit", .int 100000)]⟩
def dd_applications : He.DefD := ⟨("applications", none), "applications", "applications", defArgs st_applications, defBody st_applications, defScope st_applications, [], [("limit", .int 100000)]⟩
def dd__law_told : He.DefD := ⟨("_law_told", none), "_law_told", "_law_told", defArgs st__law_told, defBody st__law_told, defScope st__law_told, [], []⟩
def dd__law_like : He.DefD := ⟨("_law_like", none), "_law_like", "_law_like", defArgs st__law_like, defBody st__law_like, defScope st__law_like, [], []⟩
def dd_law : He.DefD := ⟨("law", none), "law", "law", defArgs st_law, defBody st_law, defScope st_law, [], []⟩
def fn_0 : List He.DefD := [dd__law_cell, dd__law_draws, dd__law_fun, dd__law_pieces, dd__law_deep, dd__law_count, dd__law_arity, dd__law_fits_well, dd__law_is_fun, dd__law_apply, dd_parts, dd_depth, dd_count_parts, dd_arity, dd_has_right_arities, dd_is_function, dd_check_arguments, dd_Evaluation___init__, dd_Evaluation_repeat, dd_Evaluation_apply, dd_evaluated, dd_value, dd_applications, dd__law_told, dd__law_like, dd_law]
def fn : List He.DefD := fn_0
def fa_0 : List He.Fa := [.glo "_law_cell", .glo "_law_draws", .glo "_law_fun", .glo "_law_pieces", .glo "_law_deep", .glo "_law_count", .glo "_law_arity", .glo "_law_fits_well", .glo "_law_is_fun", .glo "_law_apply", .glo "parts", .glo "depth", .glo "count_parts", .glo "arity", .glo "has_right_arities", .glo "is_function", .glo "check_arguments", .glo "evaluated", .glo "value", .glo "applications", .glo "_law_told", .glo "_law_like", .glo "law", .free "abs", .free "all", .free "any", .free "bool", .free "int", .free "isinstance", .free "len"]
def fa_1 : List He.Fa := [.free "list", .free "max", .free "range", .free "str", .free "sum", .free "tuple", .glo "Evaluation", .cls "Evaluation", .noat "Evaluation" "count", .noat "Evaluation" "limit", .mkr "Evaluation", .meth "Evaluation" "apply", .meth "Evaluation" "repeat", .glo "TooLong", .glo "InvalidFunction", .keep "InvalidFunction", .glo "BadArgument", .keep "BadArgument", .free "super", .int "MOST_ARITY" 6, .int "MOST_DEPTH" 12, .int "MOST_PARTS" 200]
def fa : List He.Fa := fa_0 ++ fa_1
def tts : List He.Tab := []
def tf : List He.Defn := [("has_right_arities", none), ("check_arguments", none)]
def ex (K : PySem.W.Frag) : Bool := decide (codeIsB K ("has_right_arities", none) = true) && (decide (codeIsB K ("check_arguments", none) = true) && (decide (PySem.W.subIn K (.ref (He.ga K "TooLong")) (.type "BaseException") = some true) && (decide (PySem.W.typeIn K (.ref (He.ga K "TooLong")) = some (.type "type")) && (decide (PySem.W.hasDictIn K (He.ga K "TooLong") = true) && (decide (PySem.W.subIn K (.ref (He.ga K "InvalidFunction")) (.type "BaseException") = some true) && (decide (PySem.W.typeIn K (.ref (He.ga K "InvalidFunction")) = some (.type "type")) && (decide (PySem.W.excIn K (He.ga K "InvalidFunction") [.type "ValueError", .type "Exception", .type "BaseException", .type "object"] "ValueError.__new__" = true) && (decide (PySem.W.subIn K (.ref (He.ga K "BadArgument")) (.type "BaseException") = some true) && (decide (PySem.W.typeIn K (.ref (He.ga K "BadArgument")) = some (.type "type")) && (decide (PySem.W.excIn K (He.ga K "BadArgument") [.type "ValueError", .type "Exception", .type "BaseException", .type "object"] "ValueError.__new__" = true) && (decide (DM.supB K (PySem.W.OpenLaw.row PySem.Challenge.rw_translatory_k61_values_and_applications).prog.main.file "TooLong" "TooLong.__init__" "limit" = true) && (decide (xfB K (He.ga K "TooLong") = true) && (decide (PySem.W.findIn K (.ref (He.ga K "TooLong")) "limit" = some none) && (decide (PySem.W.subIn K (.ref (He.ga K "BadArgument")) (.ref (He.ga K "TooLong")) = some false) && (decide (PySem.W.subIn K (.ref (He.ga K "InvalidFunction")) (.ref (He.ga K "TooLong")) = some false) && (decide (PySem.W.subIn K (.ref (He.ga K "TooLong")) (.ref (He.ga K "TooLong")) = some true) && (true)))))))))))))))))
def loose_0 : List PySem.Str := ["__name__", "TranslatoryError", "TooLong", "InvalidFunction", "BadArgument", "MOST_ARITY", "MOST_DEPTH", "MOST_PARTS", "parts", "depth", "count_parts", "arity", "has_right_arities", "is_function", "Evaluation", "evaluated", "check_arguments", "value", "applications", "_law_cell", "_law_draws", "_law_like", "_law_fun", "_law_pieces", "_law_arity", "_law_deep", "_law_count", "_law_fits_well", "_law_is_fun", "_law_apply"]
def loose_1 : List PySem.Str := ["_law_told"]
def loose : List PySem.Str := loose_0 ++ loose_1
abbrev RR : PySem.W.OpenRow := PySem.W.OpenLaw.row PySem.Challenge.rw_translatory_k61_values_and_applications
def xi : List DM.XI := [DM.XI.mk "TooLong" "TooLong.__init__" st_TooLong___init__]
abbrev hk : PySem.W.Hook := DM.hookY 6 fa fn tts tf ex xi
def ob (s : PySem.W.SharedT) : DM.AlY := DM.obsY 6 fa fn tts tf ex xi (HandSHeadRun.getT s)
theorem ob_eq (s : PySem.W.SharedT) : ob s = hk.obs s.abs := DM.obsY_eq (HandSHeadRun.getT_eq s)
set_option maxHeartbeats 0 in
theorem run (w : World) : HandSHeadRun.RunEq RR (PySem.W.view RR.prog [33]) hk ob 3600 loose w := by
  intro os
  kernel_rfl
set_option maxHeartbeats 0 in
theorem facts {l : PySem.W.OpenLaw} {w : World} {K : PySem.W.Frag} {h : Heap} {mg : Str → Option Value} {fa0 : Addr} (KX : K.In h) (G : h.Ns mainGlobals mg) (hfa : mg "law" = some (.ref fa0)) (csy : DM.SaysY fa fn tts tf ex xi w h K) (hb : l.most = some 63) (hfl : l.prog.main.file = (PySem.W.OpenLaw.row PySem.Challenge.rw_translatory_k61_values_and_applications).prog.main.file) (htop : (l.prog.main.scope.names.lookup ("super" : PySem.Str)).isSome = false) :
    LamX.LawAtS l w K (L2.CX l.prog w) 101 63 "_law_script" mg fa0 h := by
  have cs := csy.x
  have cd := cs.t.d
  have hex := cs.more
  unfold ex at hex
  obtain ⟨x0, hex⟩ := He.ba hex
  obtain ⟨x1, hex⟩ := He.ba hex
  obtain ⟨x2, hex⟩ := He.ba hex
  obtain ⟨x3, hex⟩ := He.ba hex
  obtain ⟨x4, hex⟩ := He.ba hex
  obtain ⟨x5, hex⟩ := He.ba hex
  obtain ⟨x6, hex⟩ := He.ba hex
  obtain ⟨x7, hex⟩ := He.ba hex
  obtain ⟨x8, hex⟩ := He.ba hex
  obtain ⟨x9, hex⟩ := He.ba hex
  obtain ⟨x10, hex⟩ := He.ba hex
  obtain ⟨x11, hex⟩ := He.ba hex
  obtain ⟨x12, hex⟩ := He.ba hex
  obtain ⟨x13, hex⟩ := He.ba hex
  obtain ⟨x14, hex⟩ := He.ba hex
  obtain ⟨x15, hex⟩ := He.ba hex
  obtain ⟨x16, hex⟩ := He.ba hex
  obtain ⟨fd__law_cell, F__law_cell⟩ := cd.def_ 0 (d := dd__law_cell) rfl
  obtain ⟨fd__law_draws, F__law_draws⟩ := cd.def_ 1 (d := dd__law_draws) rfl
  obtain ⟨fd__law_fun, F__law_fun⟩ := cd.def_ 2 (d := dd__law_fun) rfl
  obtain ⟨fd__law_pieces, F__law_pieces⟩ := cd.def_ 3 (d := dd__law_pieces) rfl
  obtain ⟨fd__law_deep, F__law_deep⟩ := cd.def_ 4 (d := dd__law_deep) rfl
  obtain ⟨fd__law_count, F__law_count⟩ := cd.def_ 5 (d := dd__law_count) rfl
  obtain ⟨fd__law_arity, F__law_arity⟩ := cd.def_ 6 (d := dd__law_arity) rfl
  obtain ⟨fd__law_fits_well, F__law_fits_well⟩ := cd.def_ 7 (d := dd__law_fits_well) rfl
  obtain ⟨fd__law_is_fun, F__law_is_fun⟩ := cd.def_ 8 (d := dd__law_is_fun) rfl
  obtain ⟨fd__law_apply, F__law_apply⟩ := cd.def_ 9 (d := dd__law_apply) rfl
  obtain ⟨fd_parts, F_parts⟩ := cd.def_ 10 (d := dd_parts) rfl
  obtain ⟨fd_depth, F_depth⟩ := cd.def_ 11 (d := dd_depth) rfl
  obtain ⟨fd_count_parts, F_count_parts⟩ := cd.def_ 12 (d := dd_count_parts) rfl
  obtain ⟨fd_arity, F_arity⟩ := cd.def_ 13 (d := dd_arity) rfl
  obtain ⟨fd_has_right_arities, F_has_right_arities⟩ := cd.def_ 14 (d := dd_has_right_arities) rfl
  obtain ⟨fd_is_function, F_is_function⟩ := cd.def_ 15 (d := dd_is_function) rfl
  obtain ⟨fd_check_arguments, F_check_arguments⟩ := cd.def_ 16 (d := dd_check_arguments) rfl
  obtain ⟨fd_Evaluation___init__, F_Evaluation___init__⟩ := cd.def_ 17 (d := dd_Evaluation___init__) rfl
  obtain ⟨fd_Evaluation_repeat, F_Evaluation_repeat⟩ := cd.def_ 18 (d := dd_Evaluation_repeat) rfl
  obtain ⟨fd_Evaluation_apply, F_Evaluation_apply⟩ := cd.def_ 19 (d := dd_Evaluation_apply) rfl
  obtain ⟨fd_evaluated, F_evaluated⟩ := cd.def_ 20 (d := dd_evaluated) rfl
  obtain ⟨fd_value, F_value⟩ := cd.def_ 21 (d := dd_value) rfl
  obtain ⟨fd_applications, F_applications⟩ := cd.def_ 22 (d := dd_applications) rfl
  obtain ⟨fd__law_told, F__law_told⟩ := cd.def_ 23 (d := dd__law_told) rfl
  obtain ⟨fd__law_like, F__law_like⟩ := cd.def_ 24 (d := dd__law_like) rfl
  obtain ⟨fd_law, F_law⟩ := cd.def_ 25 (d := dd_law) rfl
  have f0 := cd.fact 0 (f := .glo "_law_cell") rfl
  have f1 := cd.fact 1 (f := .glo "_law_draws") rfl
  have f2 := cd.fact 2 (f := .glo "_law_fun") rfl
  have f3 := cd.fact 3 (f := .glo "_law_pieces") rfl
  have f4 := cd.fact 4 (f := .glo "_law_deep") rfl
  have f5 := cd.fact 5 (f := .glo "_law_count") rfl
  have f6 := cd.fact 6 (f := .glo "_law_arity") rfl
  have f7 := cd.fact 7 (f := .glo "_law_fits_well") rfl
  have f8 := cd.fact 8 (f := .glo "_law_is_fun") rfl
  have f9 := cd.fact 9 (f := .glo "_law_apply") rfl
  have f10 := cd.fact 10 (f := .glo "parts") rfl
  have f11 := cd.fact 11 (f := .glo "depth") rfl
  have f12 := cd.fact 12 (f := .glo "count_parts") rfl
  have f13 := cd.fact 13 (f := .glo "arity") rfl
  have f14 := cd.fact 14 (f := .glo "has_right_arities") rfl
  have f15 := cd.fact 15 (f := .glo "is_function") rfl
  have f16 := cd.fact 16 (f := .glo "check_arguments") rfl
  have f17 := cd.fact 17 (f := .glo "evaluated") rfl
  have f18 := cd.fact 18 (f := .glo "value") rfl
  have f19 := cd.fact 19 (f := .glo "applications") rfl
  have f20 := cd.fact 20 (f := .glo "_law_told") rfl
  have f21 := cd.fact 21 (f := .glo "_law_like") rfl
  have f22 := cd.fact 22 (f := .glo "law") rfl
  have f23 := cd.fact 23 (f := .free "abs") rfl
  have f24 := cd.fact 24 (f := .free "all") rfl
  have f25 := cd.fact 25 (f := .free "any") rfl
  have f26 := cd.fact 26 (f := .free "bool") rfl
  have f27 := cd.fact 27 (f := .free "int") rfl
  have f28 := cd.fact 28 (f := .free "isinstance") rfl
  have f29 := cd.fact 29 (f := .free "len") rfl
  have f30 := cd.fact 30 (f := .free "list") rfl
  have f31 := cd.fact 31 (f := .free "max") rfl
  have f32 := cd.fact 32 (f := .free "range") rfl
  have f33 := cd.fact 33 (f := .free "str") rfl
  have f34 := cd.fact 34 (f := .free "sum") rfl
  have f35 := cd.fact 35 (f := .free "tuple") rfl
  have f36 := cd.fact 36 (f := .glo "Evaluation") rfl
  have f37 := cd.fact 37 (f := .cls "Evaluation") rfl
  have f38 := cd.fact 38 (f := .noat "Evaluation" "count") rfl
  have f39 := cd.fact 39 (f := .noat "Evaluation" "limit") rfl
  have f40 := cd.fact 40 (f := .mkr "Evaluation") rfl
  have f41 := cd.fact 41 (f := .meth "Evaluation" "apply") rfl
  have f42 := cd.fact 42 (f := .meth "Evaluation" "repeat") rfl
  have f43 := cd.fact 43 (f := .glo "TooLong") rfl
  have f44 := cd.fact 44 (f := .glo "InvalidFunction") rfl
  have f45 := cd.fact 45 (f := .keep "InvalidFunction") rfl
  have f46 := cd.fact 46 (f := .glo "BadArgument") rfl
  have f47 := cd.fact 47 (f := .keep "BadArgument") rfl
  have f48 := cd.fact 48 (f := .free "super") rfl
  have f49 := cd.fact 49 (f := .int "MOST_ARITY" 6) rfl
  have f50 := cd.fact 50 (f := .int "MOST_DEPTH" 12) rfl
  have f51 := cd.fact 51 (f := .int "MOST_PARTS" 200) rfl
  obtain ⟨t_MOST_ARITY, k_MOST_ARITY⟩ := He.int_ok KX G f49
  obtain ⟨t_MOST_DEPTH, k_MOST_DEPTH⟩ := He.int_ok KX G f50
  obtain ⟨t_MOST_PARTS, k_MOST_PARTS⟩ := He.int_ok KX G f51
  have e0 := hfa.symm.trans (He.glo_ok KX G f22)
  cases e0
  letI tabs : Tabs := ⟨tf.map fun p => (He.cT K p).2⟩
  have T : Txt l.prog K mg ⟨⟨(He.ga K "Evaluation"), (He.ga K "TooLong"), (He.ga K "InvalidFunction"), (He.ga K "BadArgument")⟩, He.fAd K ("_law_cell", none), fd__law_cell, He.fAd K ("_law_draws", none), fd__law_draws, He.fAd K ("_law_fun", none), fd__law_fun, He.fAd K ("_law_pieces", none), fd__law_pieces, He.fAd K ("_law_deep", none), fd__law_deep, He.fAd K ("_law_count", none), fd__law_count, He.fAd K ("_law_arity", none), fd__law_arity, He.fAd K ("_law_fits_well", none), fd__law_fits_well, He.fAd K ("_law_is_fun", none), fd__law_is_fun, He.fAd K ("_law_apply", none), fd__law_apply, He.fAd K ("parts", none), fd_parts, He.fAd K ("depth", none), fd_depth, He.fAd K ("count_parts", none), fd_count_parts, He.fAd K ("arity", none), fd_arity, He.fAd K ("has_right_arities", none), fd_has_right_arities, He.fAd K ("is_function", none), fd_is_function, He.fAd K ("check_arguments", none), fd_check_arguments, He.fAd K ("Evaluation", some "__init__"), fd_Evaluation___init__, He.fAd K ("Evaluation", some "repeat"), fd_Evaluation_repeat, He.fAd K ("Evaluation", some "apply"), fd_Evaluation_apply, He.fAd K ("evaluated", none), fd_evaluated, He.fAd K ("value", none), fd_value, He.fAd K ("applications", none), fd_applications, He.fAd K ("_law_told", none), fd__law_told, He.fAd K ("_law_like", none), fd__law_like, He.fAd K ("law", none), fd_law, (He.cT K ("has_right_arities", none)).1, (He.cT K ("has_right_arities", none)).2, (He.cT K ("check_arguments", none)).1, (He.cT K ("check_arguments", none)).2, t_MOST_ARITY, t_MOST_DEPTH, t_MOST_PARTS⟩ := ⟨F__law_cell,
    He.glo_ok KX G f0,
    FunD.binds_none F__law_cell fun _ _ _ _ _ _ us hl => match us, hl with | [_, _], _ => rfl,
    F__law_draws,
    He.glo_ok KX G f1,
    FunD.binds_none F__law_draws fun _ _ _ _ _ _ us hl => match us, hl with | [_, _], _ => rfl,
    F__law_fun,
    He.glo_ok KX G f2,
    FunD.binds_none F__law_fun fun _ _ _ _ _ _ us hl => match us, hl with | [_, _, _, _], _ => rfl,
    F__law_pieces,
    He.glo_ok KX G f3,
    FunD.binds_none F__law_pieces fun _ _ _ _ _ _ us hl => match us, hl with | [_], _ => rfl,
    F__law_deep,
    He.glo_ok KX G f4,
    FunD.binds_none F__law_deep fun _ _ _ _ _ _ us hl => match us, hl with | [_], _ => rfl,
    F__law_count,
    He.glo_ok KX G f5,
    FunD.binds_none F__law_count fun _ _ _ _ _ _ us hl => match us, hl with | [_], _ => rfl,
    F__law_arity,
    He.glo_ok KX G f6,
    FunD.binds_none F__law_arity fun _ _ _ _ _ _ us hl => match us, hl with | [_], _ => rfl,
    F__law_fits_well,
    He.glo_ok KX G f7,
    FunD.binds_none F__law_fits_well fun _ _ _ _ _ _ us hl => match us, hl with | [_], _ => rfl,
    F__law_is_fun,
    He.glo_ok KX G f8,
    FunD.binds_none F__law_is_fun fun _ _ _ _ _ _ us hl => match us, hl with | [_], _ => rfl,
    F__law_apply,
    He.glo_ok KX G f9,
    FunD.binds_none F__law_apply fun _ _ _ _ _ _ us hl => match us, hl with | [_, _, _], _ => rfl,
    F_parts,
    He.glo_ok KX G f10,
    FunD.binds_none F_parts fun _ _ _ _ _ _ us hl => match us, hl with | [_], _ => rfl,
    F_depth,
    He.glo_ok KX G f11,
    FunD.binds_none F_depth fun _ _ _ _ _ _ us hl => match us, hl with | [_], _ => rfl,
    F_count_parts,
    He.glo_ok KX G f12,
    FunD.binds_none F_count_parts fun _ _ _ _ _ _ us hl => match us, hl with | [_], _ => rfl,
    F_arity,
    He.glo_ok KX G f13,
    FunD.binds_none F_arity fun _ _ _ _ _ _ us hl => match us, hl with | [_], _ => rfl,
    F_has_right_arities,
    He.glo_ok KX G f14,
    FunD.binds_none F_has_right_arities fun _ _ _ _ _ _ us hl => match us, hl with | [_], _ => rfl,
    F_is_function,
    He.glo_ok KX G f15,
    FunD.binds_none F_is_function fun _ _ _ _ _ _ us hl => match us, hl with | [_], _ => rfl,
    F_check_arguments,
    He.glo_ok KX G f16,
    FunD.binds_none F_check_arguments fun _ _ _ _ _ _ us hl => match us, hl with | [_, _], _ => rfl,
    F_Evaluation___init__,
    FunD.binds_none F_Evaluation___init__ fun _ _ _ _ _ _ us hl => match us, hl with | [_, _], _ => rfl,
    F_Evaluation_repeat,
    FunD.binds_none F_Evaluation_repeat fun _ _ _ _ _ _ us hl => match us, hl with | [_, _, _, _], _ => rfl,
    F_Evaluation_apply,
    FunD.binds_none F_Evaluation_apply fun _ _ _ _ _ _ us hl => match us, hl with | [_, _, _], _ => rfl,
    F_evaluated,
    He.glo_ok KX G f17,
    FunD.binds_none F_evaluated fun _ _ _ _ _ _ us hl => match us, hl with | [_, _, _], _ => rfl,
    F_value,
    He.glo_ok KX G f18,
    FunD.kbinds0 F_value 2 ["limit"] [] (fun us _ ws => us ++ ws) (List.cons_ne_nil _ _) (fun q h => nomatch h) (fun r _ z => r.append z) fun D doc pm an cdv ct us mv ws hu hm hw => match us, mv, ws, hu, hm, hw with | [_, _], [], [_], _, _, _ => rfl,
    FunD.binds0 F_value 2 (List.cons_ne_nil _ _) rfl fun D doc pm an cdv ct us ks hu hk => match us, ks, hu, hk with | [_, _], [_], _, _ => ⟨_, _, _, _, _, _, rfl, rfl, rfl⟩,
    F_applications,
    He.glo_ok KX G f19,
    FunD.kbinds0 F_applications 2 ["limit"] [] (fun us _ ws => us ++ ws) (List.cons_ne_nil _ _) (fun q h => nomatch h) (fun r _ z => r.append z) fun D doc pm an cdv ct us mv ws hu hm hw => match us, mv, ws, hu, hm, hw with | [_, _], [], [_], _, _, _ => rfl,
    FunD.binds0 F_applications 2 (List.cons_ne_nil _ _) rfl fun D doc pm an cdv ct us ks hu hk => match us, ks, hu, hk with | [_, _], [_], _, _ => ⟨_, _, _, _, _, _, rfl, rfl, rfl⟩,
    F__law_told,
    He.glo_ok KX G f20,
    FunD.binds_none F__law_told fun _ _ _ _ _ _ us hl => match us, hl with | [_, _, _, _], _ => rfl,
    F__law_like,
    He.glo_ok KX G f21,
    FunD.binds_none F__law_like fun _ _ _ _ _ _ us hl => match us, hl with | [_, _], _ => rfl,
    F_law,
    He.glo_ok KX G f22,
    FunD.binds_none F_law fun _ _ _ _ _ _ us hl => match us, hl with | [_], _ => rfl,
    code_is F_has_right_arities (of_decide_eq_true x0),
    List.mem_map.mpr ⟨("has_right_arities", none), by unfold tf; simp, rfl⟩,
    code_is F_check_arguments (of_decide_eq_true x1),
    List.mem_map.mpr ⟨("check_arguments", none), by unfold tf; simp, rfl⟩,
    k_MOST_ARITY,
    k_MOST_DEPTH,
    k_MOST_PARTS,
    He.free_ok KX G f23,
    He.free_ok KX G f24,
    He.free_ok KX G f25,
    He.free_ok KX G f26,
    He.free_ok KX G f27,
    He.free_ok KX G f28,
    He.free_ok KX G f29,
    He.free_ok KX G f30,
    He.free_ok KX G f31,
    He.free_ok KX G f32,
    He.free_ok KX G f33,
    He.free_ok KX G f34,
    He.free_ok KX G f35,
    He.glo_ok KX G f36,
    He.cls_ok f37,
    He.noat_ok f38,
    He.noat_ok f39,
    He.mkr_ok f40,
    He.meth_ok f41,
    He.meth_ok f42,
    He.glo_ok KX G f43,
    of_decide_eq_true x2,
    of_decide_eq_true x3,
    of_decide_eq_true x4,
    He.glo_ok KX G f44,
    of_decide_eq_true x5,
    of_decide_eq_true x6,
    of_decide_eq_true x7,
    He.keep_ok f45,
    He.glo_ok KX G f46,
    of_decide_eq_true x8,
    of_decide_eq_true x9,
    of_decide_eq_true x10,
    He.keep_ok f47,
    ⟨_, _, DM.xiN K (DM.XI.mk "TooLong" "TooLong.__init__" st_TooLong___init__), "limit", "more than ", _, (fun n => (DM.supPs (defBody st_TooLong___init__)).1.getD n ⟨0, 0, 0, 0⟩), (DM.supPs (defBody st_TooLong___init__)).2, DM.supC_ok (d := (DM.XI.mk "TooLong" "TooLong.__init__" st_TooLong___init__)) (by rw [hfl]; exact of_decide_eq_true x11) (csy.at_ 0 rfl) htop, NdefX.nscope_by (sc := defScope st_TooLong___init__) (by decide +kernel), by rfl, by rfl, rfl, rfl, fun _ _ _ _ _ us hl => match us, hl with | [_, _], _ => rfl, fun _ => rfl, rfl, He.free_ok KX G f48, He.free_ok KX G f33, by decide, by decide, by decide⟩,
    xfB_ok (of_decide_eq_true x12),
    of_decide_eq_true x13,
    of_decide_eq_true x14,
    of_decide_eq_true x15,
    of_decide_eq_true x16⟩
  have bl := FunD.bindsA (ps := ["_law_script"]) F_law fun _ _ _ _ _ _ us hl => match us, hl with | [_], _ => rfl
  refine ⟨fd_law, tf.map (He.cT K), spOf K 1 m_law, fun p hp => ?_, fun p hp => ?_, fun p hp => ?_, fun s v => ?_, fun H a ns hl _ hT hS => law_start (fun P hP => ?_) hl hS, fun base _ _ hTB => law_ok T ⟨TabB_of (hTB (He.cT K ("has_right_arities", none)) (List.mem_map.mpr ⟨_, (by unfold tf; simp), rfl⟩)), TabB_of (hTB (He.cT K ("check_arguments", none)) (List.mem_map.mpr ⟨_, (by unfold tf; simp), rfl⟩))⟩⟩
  · obtain ⟨p2, hp2, rfl⟩ := List.mem_map.mp hp
    exact cs.empty p2 hp2
  · obtain ⟨p2, hp2, rfl⟩ := List.mem_map.mp hp
    exact cs.out p2 hp2
  · obtain ⟨p2, hp2, rfl⟩ := List.mem_map.mp hp
    exact PySem.W.codeHd_of_K KX (cs.hd p2 hp2)
  · exact bl s [v] rfl
  · obtain ⟨p, hp, rfl⟩ := List.mem_map.mp hP
    exact ⟨List.not_mem_nil, #[], hT _ (List.mem_map.mpr ⟨p, hp, rfl⟩), trivial⟩
end K61
open PySem PySem.W PySem.Calls PyProof.Rows
set_option maxHeartbeats 0 in
theorem PySem.Challenge.cw_translatory_k61_values_and_applications_holds : PySem.Challenge.rw_translatory_k61_values_and_applications.Holds := by
  w_on; o_law
  refine HandSHeadRun.head_any (r := OpenLaw.row PySem.Challenge.rw_translatory_k61_values_and_applications) (q := view (OpenLaw.row PySem.Challenge.rw_translatory_k61_values_and_applications).prog [33]) (H := K61.hk) (ob := K61.ob) (M := 3600) (loose := K61.loose) (d := HandSHeadRun.topDef (OpenLaw.row PySem.Challenge.rw_translatory_k61_values_and_applications).prog 33) (kwd := []) K61.ob_eq
    (by kernel_rfl) (fun s => by kernel_rfl) K61.run (by kernel_rfl) (by kernel_rfl) (by kernel_rfl) (by rfl) (by first | assumption | decide +kernel) (by decide +kernel) ⟨rfl, rfl, rfl, rfl, rfl, by decide +kernel⟩ ?hw ?hc
  case hw => w_witness2
  case hc =>
    refine LamX.walk_ofTsE (l := PySem.Challenge.rw_translatory_k61_values_and_applications) (n := 63) (k := 101) (x := "_law_script") (CX := fun w => L2.CX PySem.Challenge.rw_translatory_k61_values_and_applications.prog w) rfl (by decide) (by kernel_rfl) ⟨rfl, by decide, by decide⟩ ?F (fun _ _ _ _ _ z => @DM.cx_false ⟨[]⟩ _ _ _ _ _ _ z)
    intro w mg fa0 h Y G hmg0
    obtain ⟨K, KX, c⟩ := Y
    have hmg : mg ("law" : PySem.Str) = some (.ref fa0) := by
      have e : (HandSHeadRun.topDef (OpenLaw.row PySem.Challenge.rw_translatory_k61_values_and_applications).prog 33).name = ("law" : PySem.Str) := by kernel_rfl
      rw [← e]
      exact hmg0
    exact ⟨K, KX, K61.facts KX G hmg c rfl (by rfl) (by decide +kernel)⟩

