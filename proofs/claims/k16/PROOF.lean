import PyProof.Rows.All
import Wide.All
import OpenK.AllK
import Wide.FinOn
import HandS.ForMost
import HandS.ForExc
import HandS.IsInst
import HandS.TryMany
import HandS.SortInts
import HandS.DictComp
import HandS.SetFor
import HandS.Strs
import HandS.Conv
import HandS.EndBits
import PySem.Challenge.RW_callgames_k16_whole_forced_steps_and_tra
set_option Elab.async false
set_option linter.all false
set_option maxRecDepth 100000
set_option maxHeartbeats 4000000
namespace M
open PySem L2

/-! ## data -/
inductive D where
  | non
  | bl (b : Bool)
  | int (i : Int)
  | str (x : Str)
  | tup (ds : List D)
  | lst (ds : List D)
  | fz (ds : List D)
  | dic (ks : List Key) (ds : List D)
  | ref (n : Nat)

structure World where
  H0 : Hp
  mu : List (List Addr)

def World.le (w w' : World) : Prop := (∀ a o, w.H0 a = some o → w'.H0 a = some o) ∧ ∃ t, w'.mu = w.mu ++ t
theorem World.le_refl (w : World) : w.le w := ⟨fun _ _ h => h, [], by simp⟩
theorem World.le_trans {a b c : World} (h : a.le b) (k : b.le c) : a.le c :=
  ⟨fun x o e => k.1 x o (h.1 x o e), by
    obtain ⟨t, e⟩ := h.2
    obtain ⟨u, e'⟩ := k.2
    exact ⟨t ++ u, by rw [e', e, List.append_assoc]⟩⟩

section
variable (K : PySem.W.Frag) (w : World)
mutual
inductive Rep : V → D → Prop
  | non : Rep .non .non
  | bl (b : Bool) : Rep (.bl b) (.bl b)
  | int (i : Int) : Rep (.int i) (.int i)
  | str (x : Str) : Rep (.str x) (.str x)
  | tup {a : Addr} {vs : List V} {ds : List D} : SqT K w.H0 a vs → RepL vs ds → Rep (.ref a) (.tup ds)
  | lst {a : Addr} {vs : List V} {ds : List D} : w.H0 a = some (.lst vs) → RepL vs ds → Rep (.ref a) (.lst ds)
  | fz {a : Addr} {vs : List V} {ds : List D} : SqL K w.H0 a vs → RepL vs ds → Rep (.ref a) (.fz ds)
  | dic {a : Addr} {ks : List Key} {kvs : List (Key × V)} {vs : List V} {ds : List D} : w.H0 a = some (.dK kvs) → kvs.map (·.1) = ks → kvs.map (·.2) = vs → RepL vs ds → Rep (.ref a) (.dic ks ds)
  | ref {a : Addr} {n : Nat} {fp : List Addr} : w.mu[n]? = some (a :: fp) → Rep (.ref a) (.ref n)
inductive RepL : List V → List D → Prop
  | nil : RepL [] []
  | cons {v : V} {vs : List V} {d : D} {ds : List D} : Rep v d → RepL vs ds → RepL (v :: vs) (d :: ds)
end
end

theorem rd_mono {w w' : World} (h : w.le w') {a : Addr} {u : HO} (r : Rd w.H0 a u) : Rd w'.H0 a u := by
  rcases r with r | ⟨o, r⟩
  · exact .inl (h.1 _ _ r)
  · exact .inr ⟨o, h.1 _ _ r⟩
theorem sqL_mono {K : PySem.W.Frag} {w w' : World} (h : w.le w') {a : Addr} {vs : List V} (r : SqL K w.H0 a vs) : SqL K w'.H0 a vs := by
  rcases r with r | r
  · exact .inl (rd_mono h r)
  · exact .inr r
theorem sqT_mono {K : PySem.W.Frag} {w w' : World} (h : w.le w') {a : Addr} {vs : List V} (r : SqT K w.H0 a vs) : SqT K w'.H0 a vs := by
  rcases r with r | r
  · exact .inl (rd_mono h r)
  · exact .inr r
theorem mu_mono {w w' : World} (h : w.le w') {n : Nat} {l : List Addr} (e : w.mu[n]? = some l) : w'.mu[n]? = some l := by
  obtain ⟨t, q⟩ := h.2
  rw [q, List.getElem?_append_left (List.getElem?_eq_some_iff.mp e).1]
  exact e
section
variable {K : PySem.W.Frag} {w w' : World}
mutual
theorem Rep.mono (h : w.le w') : ∀ {v : V} {d : D}, Rep K w v d → Rep K w' v d
  | _, _, .non => .non
  | _, _, .bl b => .bl b
  | _, _, .int i => .int i
  | _, _, .str x => .str x
  | _, _, .tup s r => .tup (sqT_mono h s) (RepL.mono h r)
  | _, _, .lst s r => .lst (h.1 _ _ s) (RepL.mono h r)
  | _, _, .fz s r => .fz (sqL_mono h s) (RepL.mono h r)
  | _, _, .dic s e e' r => .dic (h.1 _ _ s) e e' (RepL.mono h r)
  | _, _, .ref e => .ref (mu_mono h e)
theorem RepL.mono (h : w.le w') : ∀ {vs : List V} {ds : List D}, RepL K w vs ds → RepL K w' vs ds
  | _, _, .nil => .nil
  | _, _, .cons r t => .cons (Rep.mono h r) (RepL.mono h t)
end
theorem RepL.length : ∀ {vs : List V} {ds : List D}, RepL K w vs ds → vs.length = ds.length
  | _, _, .nil => rfl
  | _, _, .cons _ t => by rw [List.length_cons, List.length_cons, RepL.length t]
theorem RepL.get : ∀ {vs : List V} {ds : List D} {i : Nat} {d : D}, RepL K w vs ds → ds[i]? = some d → ∃ v, vs[i]? = some v ∧ Rep K w v d
  | _, _, _, _, .nil, e => by simp at e
  | _, _, 0, _, .cons r _, e => by simp at e; subst e; exact ⟨_, rfl, r⟩
  | _, _, i + 1, d, .cons _ t, e => by
    obtain ⟨v, h1, h2⟩ := RepL.get (i := i) (d := d) t (by simpa using e)
    exact ⟨v, by simpa using h1, h2⟩
theorem RepL.getv : ∀ {vs : List V} {ds : List D} {i : Nat} {v : V}, RepL K w vs ds → vs[i]? = some v → ∃ d, ds[i]? = some d ∧ Rep K w v d
  | _, _, _, _, .nil, e => by simp at e
  | _, _, 0, _, .cons r _, e => by simp at e; subst e; exact ⟨_, rfl, r⟩
  | _, _, i + 1, v, .cons _ t, e => by
    obtain ⟨d, h1, h2⟩ := RepL.getv (i := i) (v := v) t (by simpa using e)
    exact ⟨d, by simpa using h1, h2⟩
theorem RepL.append : ∀ {vs us : List V} {ds es : List D}, RepL K w vs ds → RepL K w us es → RepL K w (vs ++ us) (ds ++ es)
  | _, _, _, _, .nil, s => s
  | _, _, _, _, .cons r t, s => .cons r (RepL.append t s)
theorem RepL.one {v : V} {d : D} (r : Rep K w v d) : RepL K w [v] [d] := .cons r .nil
theorem RepL.take : ∀ {vs : List V} {ds : List D} (n : Nat), RepL K w vs ds → RepL K w (vs.take n) (ds.take n)
  | _, _, 0, _ => by simp only [List.take_zero]; exact .nil
  | _, _, _ + 1, .nil => by simp only [List.take_nil]; exact .nil
  | _, _, n + 1, .cons r t => .cons r (RepL.take n t)
theorem RepL.drop : ∀ {vs : List V} {ds : List D} (n : Nat), RepL K w vs ds → RepL K w (vs.drop n) (ds.drop n)
  | _, _, 0, r => r
  | _, _, _ + 1, .nil => by simp only [List.drop_nil]; exact .nil
  | _, _, n + 1, .cons _ t => RepL.drop n t
theorem RepL.set : ∀ {vs : List V} {ds : List D} (i : Nat) {v : V} {d : D}, Rep K w v d → RepL K w vs ds → RepL K w (vs.set i v) (ds.set i d)
  | _, _, _, _, _, _, .nil => .nil
  | _, _, 0, _, _, r, .cons _ t => .cons r t
  | _, _, i + 1, _, _, r, .cons q t => .cons q (RepL.set i r t)
theorem RepL.eraseIdx : ∀ {vs : List V} {ds : List D} (i : Nat), RepL K w vs ds → RepL K w (vs.eraseIdx i) (ds.eraseIdx i)
  | _, _, _, .nil => .nil
  | _, _, 0, .cons _ t => t
  | _, _, i + 1, .cons q t => .cons q (RepL.eraseIdx i t)
theorem RepL.dropLast : ∀ {vs : List V} {ds : List D}, RepL K w vs ds → RepL K w vs.dropLast ds.dropLast
  | _, _, .nil => .nil
  | _, _, .cons _ .nil => .nil
  | _, _, .cons q (.cons r t) => .cons q (RepL.dropLast (.cons r t))
theorem RepL.reverse : ∀ {vs : List V} {ds : List D}, RepL K w vs ds → RepL K w vs.reverse ds.reverse
  | _, _, .nil => .nil
  | _, _, .cons q t => by
    rw [List.reverse_cons, List.reverse_cons]
    exact RepL.append (RepL.reverse t) (.one q)
theorem RepL.ints : ∀ {vs : List V} (ns : List Int), RepL K w vs (ns.map .int) → vs = ns.map .int
  | _, [], .nil => rfl
  | _, n :: ns, .cons r t => by
    cases r
    rw [List.map_cons, RepL.ints ns t]
theorem RepL.ofInts : ∀ (ns : List Int), RepL K w (ns.map .int) (ns.map .int)
  | [] => .nil
  | n :: ns => .cons (.int n) (RepL.ofInts ns)
theorem RepL.bls : ∀ {vs : List V} (ns : List Bool), RepL K w vs (ns.map .bl) → vs = ns.map .bl
  | _, [], .nil => rfl
  | _, n :: ns, .cons r t => by
    cases r
    rw [List.map_cons, RepL.bls ns t]
end

/-! ## slots, shared objects, the relation -/
inductive B where
  | un
  | v (d : D)
  | ml (ds : List D)
  | md (ks : List Key) (ds : List D)
  | ms (bs : List B)

inductive SObj where
  | lst (ds : List D)
  | dic (ks : List Key) (ds : List D)

structure Z where
  e : List B
  s : List SObj

/-- what more than one name may hold and write to -/
def SObjR (K : PySem.W.Frag) (w : World) (H : Hp) (fp : List Addr) : SObj → Prop
  | .lst ds => ∃ a vs, fp = [a] ∧ H a = some (.lst vs) ∧ RepL K w vs ds
  | .dic ks ds => ∃ a kvs, fp = [a] ∧ H a = some (.dK kvs) ∧ kvs.map (·.1) = ks ∧ RepL K w (kvs.map (·.2)) ds

section
variable (K : PySem.W.Frag) (w : World) (H : Hp)
mutual
def SlotR : Option V → B → List Addr → Prop
  | _, .un, fp => fp = []
  | o, .v d, fp => fp = [] ∧ ∃ v, o = some v ∧ Rep K w v d
  | o, .ml ds, fp => ∃ a vs, o = some (.ref a) ∧ fp = [a] ∧ H a = some (.lst vs) ∧ RepL K w vs ds
  | o, .md ks ds, fp => ∃ a kvs, o = some (.ref a) ∧ fp = [a] ∧ H a = some (.dK kvs) ∧ kvs.map (·.1) = ks ∧ RepL K w (kvs.map (·.2)) ds
  | o, .ms bs, fp => ∃ a vs f, o = some (.ref a) ∧ fp = a :: f ∧ H a = some (.lst vs) ∧ SlotsR vs bs f
def SlotsR : List V → List B → List Addr → Prop
  | vs, [], fp => vs = [] ∧ fp = []
  | vs, b :: bs, fp => ∃ v us f g, vs = v :: us ∧ fp = f ++ g ∧ SlotR (some v) b f ∧ SlotsR us bs g
end
end
section
variable {K : PySem.W.Frag} {w w' : World} {H H' : Hp}
mutual
theorem SlotR.mono (h : w.le w') : ∀ {b : B} {o : Option V} {fp : List Addr}, (∀ a ∈ fp, ∀ u, H a = some u → H' a = some u) → SlotR K w H o b fp → SlotR K w' H' o b fp
  | .un, _, _, _, s => s
  | .v d, _, _, _, s => by obtain ⟨e, v, e2, r⟩ := s; exact ⟨e, v, e2, r.mono h⟩
  | .ml ds, _, _, k, s => by obtain ⟨a, vs, e, rfl, q, r⟩ := s; exact ⟨a, vs, e, rfl, k a (by simp) _ q, r.mono h⟩
  | .md ks ds, _, _, k, s => by obtain ⟨a, kvs, e, rfl, q, e2, r⟩ := s; exact ⟨a, kvs, e, rfl, k a (by simp) _ q, e2, r.mono h⟩
  | .ms bs, _, _, k, s => by
    obtain ⟨a, vs, f, e, rfl, q, r⟩ := s
    exact ⟨a, vs, f, e, rfl, k a (by simp) _ q, SlotsR.mono h (fun a m => k a (List.mem_cons_of_mem _ m)) r⟩
theorem SlotsR.mono (h : w.le w') : ∀ {bs : List B} {vs : List V} {fp : List Addr}, (∀ a ∈ fp, ∀ u, H a = some u → H' a = some u) → SlotsR K w H vs bs fp → SlotsR K w' H' vs bs fp
  | [], _, _, _, s => s
  | b :: bs, _, _, k, s => by
    obtain ⟨v, us, f, g, rfl, rfl, s1, s2⟩ := s
    exact ⟨v, us, f, g, rfl, rfl, SlotR.mono h (fun a m => k a (List.mem_append_left _ m)) s1, SlotsR.mono h (fun a m => k a (List.mem_append_right _ m)) s2⟩
end
end
theorem SObjR.mono {K : PySem.W.Frag} {w w' : World} {H H' : Hp} {fp : List Addr} {o : SObj} (h : w.le w') (k : ∀ a ∈ fp, ∀ u, H a = some u → H' a = some u) (s : SObjR K w H fp o) : SObjR K w' H' fp o := by
  cases o with
  | lst ds =>
    obtain ⟨a, vs, rfl, h1, h2⟩ := s
    exact ⟨a, vs, rfl, k a (by simp) _ h1, h2.mono h⟩
  | dic ks ds =>
    obtain ⟨a, kvs, rfl, h1, h2, h3⟩ := s
    exact ⟨a, kvs, rfl, k a (by simp) _ h1, h2, h3.mono h⟩

/-- a stretch of the run began here: the heap, the world, what may have changed since -/
structure Fr where
  Hin : Hp
  win : World
  pf : Addr → Prop

def slot (σ : St) (i : Nat) : Option V := (σ[i]?).getD none

structure Rel (K : PySem.W.Frag) (fr : Fr) (w : World) (σ : St) (H : Hp) (z : Z) (fp : Nat → List Addr) : Prop where
  sub : ∀ (a : Addr) (o : HO), w.H0 a = some o → H a = some o
  ge : fr.win.le w
  frame : ∀ (a : Addr) (o : HO), fr.Hin a = some o → ¬ fr.pf a → H a = some o
  dom : ∀ (a : Addr) (o : HO), fr.Hin a = some o → ∃ o', H a = some o'
  fresh : ∀ (a : Addr) (o : HO), w.H0 a = some o → fr.win.H0 a = some o ∨ fr.Hin a = none ∨ fr.pf a
  len : σ.length = z.e.length
  slots : ∀ (i : Nat) (b : B), z.e[i]? = some b → SlotR K w H (slot σ i) b (fp i)
  away : ∀ (i : Nat), z.e[i]? = none → fp i = []
  own : ∀ (i : Nat) (a : Addr), a ∈ fp i → w.H0 a = none ∧ a ∉ w.mu.flatten ∧ (fr.Hin a = none ∨ fr.pf a)
  nd : ∀ (i : Nat), (fp i).Nodup
  dj : ∀ (i j : Nat) (a : Addr), a ∈ fp i → a ∈ fp j → i = j
  shl : w.mu.length = z.s.length
  sh : ∀ (n : Nat) (l : List Addr) (o : SObj), w.mu[n]? = some l → z.s[n]? = some o → SObjR K w H l o
  shd : w.mu.flatten.Nodup
  sh0 : ∀ (a : Addr), a ∈ w.mu.flatten → w.H0 a = none ∧ (fr.Hin a = none ∨ fr.pf a)

/-- owned addresses are in the heap -/
theorem there_both {K : PySem.W.Frag} {w : World} {H : Hp} : (∀ {b : B} {o : Option V} {fp : List Addr}, SlotR K w H o b fp → ∀ a ∈ fp, ∃ u, H a = some u) := by
  intro b
  refine B.rec (motive_1 := fun b => ∀ {o : Option V} {fp : List Addr}, SlotR K w H o b fp → ∀ a ∈ fp, ∃ u, H a = some u) (motive_2 := fun bs => ∀ {vs : List V} {fp : List Addr}, SlotsR K w H vs bs fp → ∀ a ∈ fp, ∃ u, H a = some u) ?_ ?_ ?_ ?_ ?_ ?_ ?_ b
  · intro o fp s; cases s; intro a h; cases h
  · intro d o fp s; obtain ⟨rfl, _⟩ := s; intro a h; cases h
  · intro ds o fp s; obtain ⟨a, vs, e, rfl, q, r⟩ := s; intro b h; simp at h; subst h; exact ⟨_, q⟩
  · intro ks ds o fp s; obtain ⟨a, vs, e, rfl, q, r⟩ := s; intro b h; simp at h; subst h; exact ⟨_, q⟩
  · intro bs ih o fp s
    obtain ⟨a, vs, f, e, rfl, q, r⟩ := s
    intro b h
    rcases List.mem_cons.mp h with rfl | h
    · exact ⟨_, q⟩
    · exact ih r b h
  · intro vs fp s; obtain ⟨_, rfl⟩ := s; intro a h; cases h
  · intro b bs ih1 ih2 vs fp s
    obtain ⟨v, us, f, g, rfl, rfl, s1, s2⟩ := s
    intro a h
    rcases List.mem_append.mp h with h | h
    · exact ih1 s1 a h
    · exact ih2 s2 a h
theorem SlotR.there {K : PySem.W.Frag} {w : World} {H : Hp} {o : Option V} {b : B} {fp : List Addr} (s : SlotR K w H o b fp) : ∀ a ∈ fp, ∃ u, H a = some u := there_both s
theorem SObjR.there {K : PySem.W.Frag} {w : World} {H : Hp} {fp : List Addr} {o : SObj} (s : SObjR K w H fp o) : ∀ a ∈ fp, ∃ u, H a = some u := by
  cases o with
  | lst ds =>
    obtain ⟨a, vs, rfl, h1, h2⟩ := s
    intro b h
    simp at h
    subst h
    exact ⟨_, h1⟩
  | dic ks ds =>
    obtain ⟨a, kvs, rfl, h1, h2⟩ := s
    intro b h
    simp at h
    subst h
    exact ⟨_, h1⟩
section
variable {K : PySem.W.Frag} {fr : Fr} {w w' : World} {σ : St} {H H' : Hp} {z : Z} {fp : Nat → List Addr}
theorem Rel.slot_there (R : Rel K fr w σ H z fp) {i : Nat} {a : Addr} (h : a ∈ fp i) : ∃ u, H a = some u := by
  cases e : z.e[i]? with
  | none => rw [R.away i e] at h; cases h
  | some b => exact (R.slots i b e).there a h
theorem Rel.sh_there (R : Rel K fr w σ H z fp) {a : Addr} (h : a ∈ w.mu.flatten) : ∃ u, H a = some u := by
  obtain ⟨l, h1, h2⟩ := List.mem_flatten.mp h
  obtain ⟨n, hn, e⟩ := List.getElem_of_mem h1
  have hs : n < z.s.length := by rw [← R.shl]; exact hn
  exact (R.sh n l _ (by rw [List.getElem?_eq_getElem hn, e]) (List.getElem?_eq_getElem hs)).there a h2
theorem Rel.newIn (R : Rel K fr w σ H z fp) {p : Addr} (h : H p = none) : fr.Hin p = none := by
  cases e : fr.Hin p with
  | none => rfl
  | some o => obtain ⟨o', q⟩ := R.dom p o e; rw [h] at q; cases q
theorem Rel.new0 (R : Rel K fr w σ H z fp) {p : Addr} (h : H p = none) : w.H0 p = none := by
  cases e : w.H0 p with
  | none => rfl
  | some o => rw [R.sub p o e] at h; cases h
def World.add (w : World) (p : Addr) (o : HO) : World := ⟨upd w.H0 p o, w.mu⟩
theorem World.le_add {w : World} {p : Addr} {o : HO} (h : w.H0 p = none) : w.le (w.add p o) :=
  ⟨fun a u e => by show upd w.H0 p o a = _; rw [upd_ne (ne_of_none e h)]; exact e, [], by simp [World.add]⟩
/-- a new object is laid; it stays -/
theorem Rel.alloc (R : Rel K fr w σ H z fp) {p : Addr} {o : HO} (h : H p = none) : Rel K fr (w.add p o) σ (upd H p o) z fp := by
  have h0 := R.new0 h
  have hi := R.newIn h
  have ne : ∀ {a : Addr} {u : HO}, H a = some u → a ≠ p := fun e => ne_of_none e h
  refine ⟨fun a u e => ?_, World.le_trans R.ge (World.le_add h0), fun a u e n => ?_, fun a u e => ?_, fun a u e => ?_, R.len, fun i b e => ?_, R.away, fun i a m => ?_, R.nd, R.dj, R.shl, fun n l u e e' => ?_, R.shd, fun a m => ?_⟩
  · by_cases hp : a = p
    · subst hp
      rw [show (w.add a o).H0 = upd w.H0 a o from rfl, upd_same] at e
      rw [upd_same]; exact e
    · rw [show (w.add p o).H0 = upd w.H0 p o from rfl, upd_ne hp] at e
      rw [upd_ne hp]; exact R.sub _ _ e
  · have q := R.frame a u e n
    rw [upd_ne (ne q)]; exact q
  · obtain ⟨u', q⟩ := R.dom a u e
    exact ⟨u', by rw [upd_ne (ne q)]; exact q⟩
  · by_cases hp : a = p
    · subst hp; exact .inr (.inl hi)
    · rw [show (w.add p o).H0 = upd w.H0 p o from rfl, upd_ne hp] at e
      exact R.fresh a u e
  · refine SlotR.mono (World.le_add h0) (fun a m u q => ?_) (R.slots i b e)
    rw [upd_ne (ne q)]; exact q
  · obtain ⟨a1, a2, a3⟩ := R.own i a m
    obtain ⟨u, q⟩ := R.slot_there m
    refine ⟨?_, a2, a3⟩
    show upd w.H0 p o a = none
    rw [upd_ne (ne q)]; exact a1
  · refine (R.sh n l u e e').mono (World.le_add h0) fun a m u' q => ?_
    rw [upd_ne (ne q)]; exact q
  · obtain ⟨a1, a3⟩ := R.sh0 a m
    obtain ⟨u, q⟩ := R.sh_there m
    refine ⟨?_, a3⟩
    show upd w.H0 p o a = none
    rw [upd_ne (ne q)]; exact a1

/-- what may change from here on: shared objects, and what the slots of I own -/
def pfAt (w : World) (fp : Nat → List Addr) (I : Nat → Prop) : Addr → Prop := fun a => a ∈ w.mu.flatten ∨ ∃ i, I i ∧ a ∈ fp i
theorem Rel.conv (R : Rel K fr w σ H z fp) {I : Nat → Prop} {a : Addr} (h : H a = none ∨ pfAt w fp I a) : fr.Hin a = none ∨ fr.pf a := by
  rcases h with h | h | ⟨i, _, h⟩
  · exact .inl (R.newIn h)
  · exact (R.sh0 a h).2
  · exact (R.own i a h).2.2
theorem Rel.back (R : Rel K fr w σ H z fp) {I : Nat → Prop} {w1 : World} {σ1 : St} {H1 : Hp} {z1 : Z} {fp1 : Nat → List Addr} (R1 : Rel K ⟨H, w, pfAt w fp I⟩ w1 σ1 H1 z1 fp1) {e : List B} {σ2 : St} {fp2 : Nat → List Addr}
    (hl : σ2.length = e.length) (hI : ∀ i, I i → e[i]? = z1.e[i]? ∧ slot σ2 i = slot σ1 i ∧ fp2 i = fp1 i) (hN : ∀ i, ¬ I i → e[i]? = z.e[i]? ∧ slot σ2 i = slot σ i ∧ fp2 i = fp i) :
    Rel K fr w1 σ2 H1 ⟨e, z1.s⟩ fp2 := by
  have npf : ∀ {j : Nat} {a : Addr}, ¬ I j → a ∈ fp j → ¬ pfAt w fp I a := fun hj m h => by
    rcases h with h | ⟨i, hi, h⟩
    · exact (R.own _ _ m).2.1 h
    · exact hj (R.dj _ _ _ h m ▸ hi)
  refine ⟨R1.sub, World.le_trans R.ge R1.ge, fun a o e n => R1.frame a o (R.frame a o e n) fun h => ?_, fun a o e => ?_, fun a o e => ?_, hl, fun i b e => ?_, fun i e => ?_, fun i a m => ?_, fun i => ?_, fun i j a m m' => ?_, R1.shl, R1.sh, R1.shd, fun a m => ?_⟩
  · rcases R.conv (I := I) (.inr h) with q | q
    · rw [e] at q; cases q
    · exact n q
  · obtain ⟨o1, e1⟩ := R.dom a o e
    exact R1.dom a o1 e1
  · rcases R1.fresh a o e with q | q
    · exact R.fresh a o q
    · exact .inr (R.conv q)
  · by_cases hi : I i
    · obtain ⟨h1, h2, h3⟩ := hI i hi
      rw [h2, h3]
      exact R1.slots i b (h1 ▸ e)
    · obtain ⟨h1, h2, h3⟩ := hN i hi
      rw [h2, h3]
      exact SlotR.mono R1.ge (fun a m u q => R1.frame a u q (npf hi m)) (R.slots i b (h1 ▸ e))
  · by_cases hi : I i
    · obtain ⟨h1, h2, h3⟩ := hI i hi
      rw [h3]; exact R1.away i (h1 ▸ e)
    · obtain ⟨h1, h2, h3⟩ := hN i hi
      rw [h3]; exact R.away i (h1 ▸ e)
  · by_cases hi : I i
    · obtain ⟨h1, h2, h3⟩ := hI i hi
      obtain ⟨a1, a2, a3⟩ := R1.own i a (h3 ▸ m)
      exact ⟨a1, a2, R.conv a3⟩
    · obtain ⟨h1, h2, h3⟩ := hN i hi
      have m' : a ∈ fp i := h3 ▸ m
      obtain ⟨a1, a2, a3⟩ := R.own i a m'
      obtain ⟨u, q⟩ := R.slot_there m'
      refine ⟨?_, fun k => ?_, a3⟩
      · cases e : w1.H0 a with
        | none => rfl
        | some o =>
          rcases R1.fresh a o e with k | k | k
          · rw [show (⟨H, w, pfAt w fp I⟩ : Fr).win.H0 a = w.H0 a from rfl, a1] at k; cases k
          · rw [show (⟨H, w, pfAt w fp I⟩ : Fr).Hin a = H a from rfl, q] at k; cases k
          · exact absurd k (npf hi m')
      · rcases (R1.sh0 a k).2 with k | k
        · rw [show (⟨H, w, pfAt w fp I⟩ : Fr).Hin a = H a from rfl, q] at k; cases k
        · exact npf hi m' k
  · by_cases hi : I i
    · rw [(hI i hi).2.2]; exact R1.nd i
    · rw [(hN i hi).2.2]; exact R.nd i
  · have mix : ∀ {i j : Nat}, I i → ¬ I j → a ∈ fp2 i → a ∈ fp2 j → False := fun {i j} hi hj m m' => by
      rw [(hI i hi).2.2] at m
      rw [(hN j hj).2.2] at m'
      obtain ⟨u, q⟩ := R.slot_there m'
      rcases (R1.own i a m).2.2 with k | k
      · rw [show (⟨H, w, pfAt w fp I⟩ : Fr).Hin a = H a from rfl, q] at k; cases k
      · exact npf hj m' k
    by_cases hi : I i <;> by_cases hj : I j
    · rw [(hI i hi).2.2] at m
      rw [(hI j hj).2.2] at m'
      exact R1.dj i j a m m'
    · exact (mix hi hj m m').elim
    · exact (mix hj hi m' m).elim
    · rw [(hN i hi).2.2] at m
      rw [(hN j hj).2.2] at m'
      exact R.dj i j a m m'
  · obtain ⟨a1, a2⟩ := R1.sh0 a m
    exact ⟨a1, R.conv a2⟩
/-- begun anew here, with the slots of I alone -/
theorem Rel.anew (R : Rel K fr w σ H z fp) {I : Nat → Prop} {e : List B} {σ2 : St} {fp2 : Nat → List Addr} (hl : σ2.length = e.length)
    (hI : ∀ i, I i → e[i]? = z.e[i]? ∧ slot σ2 i = slot σ i ∧ fp2 i = fp i) (hN : ∀ i, ¬ I i → (∀ b, e[i]? = some b → SlotR K w H (slot σ2 i) b []) ∧ fp2 i = []) :
    Rel K ⟨H, w, pfAt w fp I⟩ w σ2 H ⟨e, z.s⟩ fp2 := by
  refine ⟨R.sub, World.le_refl w, fun _ _ e _ => e, fun _ o e => ⟨o, e⟩, fun _ _ e => .inl e, hl, fun i b e => ?_, fun i e => ?_, fun i a m => ?_, fun i => ?_, fun i j a m m' => ?_, R.shl, R.sh, R.shd, fun a m => ⟨(R.sh0 a m).1, .inr (.inl m)⟩⟩
  · by_cases hi : I i
    · obtain ⟨h1, h2, h3⟩ := hI i hi
      rw [h2, h3]; exact R.slots i b (h1 ▸ e)
    · obtain ⟨h1, h2⟩ := hN i hi
      rw [h2]; exact h1 b e
  · by_cases hi : I i
    · obtain ⟨h1, h2, h3⟩ := hI i hi
      rw [h3]; exact R.away i (h1 ▸ e)
    · exact (hN i hi).2
  · by_cases hi : I i
    · rw [(hI i hi).2.2] at m
      obtain ⟨a1, a2, a3⟩ := R.own i a m
      exact ⟨a1, a2, .inr (.inr ⟨i, hi, m⟩)⟩
    · rw [(hN i hi).2] at m; cases m
  · by_cases hi : I i
    · rw [(hI i hi).2.2]; exact R.nd i
    · rw [(hN i hi).2]; exact List.nodup_nil
  · by_cases hi : I i
    · by_cases hj : I j
      · rw [(hI i hi).2.2] at m
        rw [(hI j hj).2.2] at m'
        exact R.dj i j a m m'
      · rw [(hN j hj).2] at m'; cases m'
    · rw [(hN i hi).2] at m; cases m
theorem Rel.drop (R : Rel K fr w σ H z fp) : Rel K fr w [] H ⟨[], z.s⟩ (fun _ => []) :=
  ⟨R.sub, R.ge, R.frame, R.dom, R.fresh, rfl, fun _ _ e => (by simp at e), fun _ _ => rfl, fun _ _ m => (by cases m), fun _ => List.nodup_nil, fun _ _ _ m => (by cases m), R.shl, R.sh, R.shd, R.sh0⟩
/-- the slots set anew: each a known value (nothing owned), or as it was -/
theorem Rel.reslot (R : Rel K fr w σ H z fp) {e : List B} {σ2 : St} {fp2 : Nat → List Addr} (hl : σ2.length = e.length)
    (h : ∀ i, (e[i]? = z.e[i]? ∧ slot σ2 i = slot σ i ∧ fp2 i = fp i) ∨ ((∀ b, e[i]? = some b → SlotR K w H (slot σ2 i) b []) ∧ fp2 i = [])) :
    Rel K fr w σ2 H ⟨e, z.s⟩ fp2 := by
  refine ⟨R.sub, R.ge, R.frame, R.dom, R.fresh, hl, fun i b e => ?_, fun i e => ?_, fun i a m => ?_, fun i => ?_, fun i j a m m' => ?_, R.shl, R.sh, R.shd, R.sh0⟩
  · rcases h i with ⟨h1, h2, h3⟩ | ⟨h1, h2⟩
    · rw [h2, h3]; exact R.slots i b (h1 ▸ e)
    · rw [h2]; exact h1 b e
  · rcases h i with ⟨h1, h2, h3⟩ | ⟨h1, h2⟩
    · rw [h3]; exact R.away i (h1 ▸ e)
    · exact h2
  · rcases h i with ⟨h1, h2, h3⟩ | ⟨h1, h2⟩
    · rw [h3] at m; exact R.own i a m
    · rw [h2] at m; cases m
  · rcases h i with ⟨h1, h2, h3⟩ | ⟨h1, h2⟩
    · rw [h3]; exact R.nd i
    · rw [h2]; exact List.nodup_nil
  · rcases h i with ⟨h1, h2, h3⟩ | ⟨h1, h2⟩
    · rcases h j with ⟨k1, k2, k3⟩ | ⟨k1, k2⟩
      · rw [h3] at m; rw [k3] at m'; exact R.dj i j a m m'
      · rw [k2] at m'; cases m'
    · rw [h2] at m; cases m
end
end M
namespace M
open PySem L2

/-! ## the mirror's results -/
inductive R (α : Type) where
  | ok (a : α) (z : Z)
  | ex (c : Str) (z : Z)
  | no
abbrev Mi (α : Type) := Z → R α
def mPure {α : Type} (a : α) : Mi α := fun z => .ok a z
def mNo {α : Type} : Mi α := fun _ => .no
def mBind {α β : Type} (m : Mi α) (k : α → Mi β) : Mi β := fun z => match m z with
  | .ok a z' => k a z'
  | .ex c z' => .ex c z'
  | .no => .no
def mLift {α : Type} (o : Option α) : Mi α := match o with
  | some a => mPure a
  | none => mNo
inductive Fl where
  | nx | bk | ct
  | rt (d : D)

/-! ## families of contexts -/
structure Fam where
  C : Cx → Prop
  P : Program
  w : PySem.World
  K : PySem.W.Frag
  mg : Str → Option Value
  base : Heap
  N : List Str
  nd : N.Nodup
  sc : Scope
  fn : Str → Bool
  lvl : Nat
  cal : Bool
  W : WX
  eqs : ∀ X, C X → X.prog = P ∧ X.w = w ∧ X.K = K ∧ X.mg = mg ∧ X.base = base ∧ X.N = N ∧ X.env.scope = sc ∧ X.fn = fn
  calm : ∀ X, C X → cal = true → X.calm = true
  room : ∀ X, C X → cal = true → Room lvl X.A
  tk : ∀ X, C X → cal = true → Takes X W
  pass : ∀ X, C X → PassesOwn (model X.prog X.w) X.A X.env X.xe

def Fam.raise (F : Fam) (c : Str) (σ : St) (H : Hp) : Prop := F.W ((F.mg c).getD .none) none σ H

/-- what the mirror's answer asks -/
def Ens {α : Type} (F : Fam) (fr : Fr) (w : World) (σ : St) (r : R α) (q : α → World → Hp → Z → (Nat → List Addr) → Prop) : Prop := match r with
  | .ok a z' => ∀ w' H' fp', Rel F.K fr w' σ H' z' fp' → w.le w' → q a w' H' z' fp'
  | .ex c z' => ∀ w' H' fp', Rel F.K fr w' σ H' z' fp' → w.le w' → F.raise c σ H'
  | .no => False
section
variable {F : Fam} {fr : Fr} {w w' : World} {σ : St} {α β : Type}
theorem Ens.imp {r : R α} {q q' : α → World → Hp → Z → (Nat → List Addr) → Prop} (h : Ens F fr w σ r q) (k : ∀ a w' H' z' fp', Rel F.K fr w' σ H' z' fp' → w.le w' → q a w' H' z' fp' → q' a w' H' z' fp') : Ens F fr w σ r q' := by
  cases r with
  | ok a z' => exact fun w' H' fp' R l => k a w' H' z' fp' R l (h w' H' fp' R l)
  | ex c z' => exact h
  | no => exact h
theorem Ens.up {r : R α} {q : α → World → Hp → Z → (Nat → List Addr) → Prop} (l : w.le w') (h : Ens F fr w σ r q) : Ens F fr w' σ r q := by
  cases r with
  | ok a z' => exact fun w'' H' fp' R l' => h w'' H' fp' R (World.le_trans l l')
  | ex c z' => exact fun w'' H' fp' R l' => h w'' H' fp' R (World.le_trans l l')
  | no => exact h
theorem Ens.cut {m : Mi α} {k : α → Mi β} {z : Z} {q : β → World → Hp → Z → (Nat → List Addr) → Prop} (h : Ens F fr w σ (mBind m k z) q) :
    Ens F fr w σ (m z) (fun a w' H' z' fp' => Rel F.K fr w' σ H' z' fp' ∧ w.le w' ∧ Ens F fr w' σ (k a z') q) := by
  unfold mBind at h
  cases e : m z with
  | ok a z' =>
    rw [e] at h
    exact fun w' H' fp' R l => ⟨R, l, Ens.up l h⟩
  | ex c z' =>
    rw [e] at h
    exact h
  | no =>
    rw [e] at h
    exact h
end

/-! ## judgements -/
def TED (F : Fam) (te : TE) (m : Mi D) : Prop := ∀ fr w σ H z fp (Q : VK), Rel F.K fr w σ H z fp → Ens F fr w σ (m z) (fun d w' H' _ _ => ∀ v, Rep F.K w' v d → Q v H') → te σ H Q
def TTD (F : Fam) (tt : TT) (m : Mi Bool) : Prop := ∀ fr w σ H z fp (Q : Bool → Hp → Prop), Rel F.K fr w σ H z fp → Ens F fr w σ (m z) (fun b _ H' _ _ => Q b H') → tt σ H Q
def TAD (F : Fam) (ta : TA) (m : Mi (List D)) : Prop := ∀ fr w σ H z fp (Q : List V → Hp → Prop), Rel F.K fr w σ H z fp → Ens F fr w σ (m z) (fun ds w' H' _ _ => ∀ vs, RepL F.K w' vs ds → Q vs H') → ta σ H Q
/-- a value as it is now: known, or a slot's own list or dict -/
inductive RepN (K : PySem.W.Frag) (w : World) (H : Hp) : V → D → Prop
  | of {v : V} {d : D} : Rep K w v d → RepN K w H v d
  | ml {a : Addr} {vs : List V} {ds : List D} : H a = some (.lst vs) → RepL K w vs ds → RepN K w H (.ref a) (.lst ds)
  | md {a : Addr} {kvs : List (Key × V)} {ds : List D} : H a = some (.dK kvs) → RepL K w (kvs.map (·.2)) ds → RepN K w H (.ref a) (.dic (kvs.map (·.1)) ds)
def TND (F : Fam) (te : TE) (m : Mi D) : Prop := ∀ fr w σ H z fp (Q : VK), Rel F.K fr w σ H z fp → Ens F fr w σ (m z) (fun d w' H' _ _ => ∀ v, RepN F.K w' H' v d → Q v H') → te σ H Q
/-- a new thing that nothing else holds: it stands behind the slots -/
def EnsB (F : Fam) (fr : Fr) (w : World) (σ : St) (r : R B) (Q : VK) : Prop := match r with
  | .ok b z' => ∀ v w' H' fp', Rel F.K fr w' (σ ++ [some v]) H' ⟨z'.e ++ [b], z'.s⟩ fp' → w.le w' → Q v H'
  | .ex c z' => ∀ w' H' fp', Rel F.K fr w' σ H' z' fp' → w.le w' → F.raise c σ H'
  | .no => False
def TBD (F : Fam) (te : TE) (m : Mi B) : Prop := ∀ fr w σ H z fp (Q : VK), Rel F.K fr w σ H z fp → EnsB F fr w σ (m z) Q → te σ H Q
def EnsS (F : Fam) (fr : Fr) (w : World) (r : R Fl) (E : Ends) : Prop := match r with
  | .ok .nx z' => ∀ σ' w' H' fp', Rel F.K fr w' σ' H' z' fp' → w.le w' → E.nx σ' H'
  | .ok .bk z' => ∀ σ' w' H' fp', Rel F.K fr w' σ' H' z' fp' → w.le w' → E.bk σ' H'
  | .ok .ct z' => ∀ σ' w' H' fp', Rel F.K fr w' σ' H' z' fp' → w.le w' → E.ct σ' H'
  | .ok (.rt d) z' => ∀ σ' v w' H' fp', Rel F.K fr w' σ' H' z' fp' → w.le w' → Rep F.K w' v d → E.rt v H'
  | .ex c z' => ∀ σ' w' H' fp', Rel F.K fr w' σ' H' z' fp' → w.le w' → F.raise c σ' H'
  | .no => False
def TSD (F : Fam) (ts : TS) (m : Mi Fl) : Prop := ∀ fr w σ H z fp (E : Ends), Rel F.K fr w σ H z fp → EnsS F fr w (m z) E → ts E σ H

structure SE (F : Fam) (e : Expr) (m : Mi D) : Prop where
  ex : ∃ te, (∀ X, F.C X → PE X e te) ∧ TED F te m
structure SN (F : Fam) (e : Expr) (m : Mi D) : Prop where
  ex : ∃ te, (∀ X, F.C X → PE X e te) ∧ TND F te m
structure SB (F : Fam) (e : Expr) (m : Mi B) : Prop where
  ex : ∃ te, (∀ X, F.C X → PE X e te) ∧ TBD F te m
structure ST (F : Fam) (e : Expr) (m : Mi Bool) : Prop where
  ex : ∃ tt, (∀ X, F.C X → PT X e tt) ∧ TTD F tt m
structure SW (F : Fam) (e : Expr) (m : Mi Bool) : Prop where
  ex : ∃ tt, (∀ X, F.C X → PW X e tt) ∧ TTD F tt m
structure SA (F : Fam) (es : List Expr) (m : Mi (List D)) : Prop where
  ex : ∃ ta, (∀ X, F.C X → PA X es ta) ∧ TAD F ta m
structure SS (F : Fam) (st : Stmt) (m : Mi Fl) : Prop where
  ex : ∃ ts, (∀ X, F.C X → PS X st ts) ∧ TSD F ts m
structure SSs (F : Fam) (st : List Stmt) (m : Mi Fl) : Prop where
  ex : ∃ ts, (∀ X, F.C X → PSs X st ts) ∧ TSD F ts m

/-! ## names, constants -/
section
variable {F : Fam}
theorem slot_get {σ : St} {i : Nat} {v : V} (h : slot σ i = some v) : σ[i]? = some (some v) := by
  unfold slot at h
  cases e : σ[i]? with
  | none => rw [e] at h; cases h
  | some o => rw [e] at h; rw [show o = some v from h]
theorem slot_of {σ : St} {i : Nat} {o : Option V} (h : σ[i]? = some o) : slot σ i = o := by
  unfold slot; rw [h]; rfl
/-- a thing as data -/
def fzB : B → Option D
  | .un => none
  | .v d => some d
  | .ml ds => some (.lst ds)
  | .md ks ds => some (.dic ks ds)
  | .ms bs => (fzBs bs).map .lst
where fzBs : List B → Option (List D)
  | [] => some []
  | b :: bs => match fzB b, fzBs bs with
    | some d, some ds => some (d :: ds)
    | _, _ => none
abbrev fzBs := fzB.fzBs
def pk : B → Option D
  | .un => none
  | .v d => some d
  | .ml ds => some (.lst ds)
  | .md ks ds => some (.dic ks ds)
  | .ms _ => none
/-- the name's value; what it owned stands still from here on -/
def mVar (i : Nat) : Mi D := fun z => match z.e[i]? with
  | some (.v d) => .ok d z
  | some b => (match fzB b with
    | some d => .ok d ⟨z.e.set i (.v d), z.s⟩
    | none => .no)
  | none => .no
/-- the name's value as it is now -/
def mPk (i : Nat) : Mi D := fun z => match (z.e[i]?).bind pk with
  | some d => .ok d z
  | none => .no

theorem slot_set_eq {σ : St} {i : Nat} {o : Option V} (h : i < σ.length) : slot (σ.set i o) i = o := by
  unfold slot; rw [List.getElem?_set_self h]; rfl
theorem slot_set_ne {σ : St} {i j : Nat} {o : Option V} (h : i ≠ j) : slot (σ.set i o) j = slot σ j := by
  unfold slot; rw [List.getElem?_set_ne h]

/-- what a slot owns is taken over: it stands still from here on -/
def World.adopt (w : World) (H : Hp) (l : List Addr) : World := ⟨fun a => if a ∈ l then H a else w.H0 a, w.mu⟩
theorem freeze_slot {K : PySem.W.Frag} {w w' : World} {H : Hp} (l : w.le w') {b : B} : ∀ {o : Option V} {fp : List Addr} {d : D}, SlotR K w H o b fp → fzB b = some d → (∀ a ∈ fp, w'.H0 a = H a) → ∃ v, o = some v ∧ Rep K w' v d := by
  refine B.rec (motive_1 := fun b => ∀ {o : Option V} {fp : List Addr} {d : D}, SlotR K w H o b fp → fzB b = some d → (∀ a ∈ fp, w'.H0 a = H a) → ∃ v, o = some v ∧ Rep K w' v d)
    (motive_2 := fun bs => ∀ {vs : List V} {fp : List Addr} {ds : List D}, SlotsR K w H vs bs fp → fzBs bs = some ds → (∀ a ∈ fp, w'.H0 a = H a) → RepL K w' vs ds) ?_ ?_ ?_ ?_ ?_ ?_ ?_ b
  · intro o fp d s h; cases h
  · intro d' o fp d s h k; cases h; obtain ⟨_, v, e, r⟩ := s; exact ⟨v, e, r.mono l⟩
  · intro ds o fp d s h k; cases h; obtain ⟨a, vs, e, rfl, q, r⟩ := s; exact ⟨_, e, .lst (by rw [k a (by simp)]; exact q) (r.mono l)⟩
  · intro ks ds o fp d s h k; cases h; obtain ⟨a, kvs, e, rfl, q, e2, r⟩ := s; exact ⟨_, e, .dic (by rw [k a (by simp)]; exact q) e2 rfl (r.mono l)⟩
  · intro bs ih o fp d s h k
    obtain ⟨a, vs, f, e, rfl, q, r⟩ := s
    have h : (fzBs bs).map D.lst = some d := h
    cases e1 : fzBs bs with
    | none => rw [e1] at h; cases h
    | some ds =>
      rw [e1] at h
      cases h
      exact ⟨_, e, .lst (by rw [k a (by simp)]; exact q) (ih r e1 fun a m => k a (List.mem_cons_of_mem _ m))⟩
  · intro vs fp ds s h k; obtain ⟨rfl, _⟩ := s; cases h; exact .nil
  · intro b bs ih1 ih2 vs fp ds s h k
    obtain ⟨v, us, f, g, rfl, rfl, s1, s2⟩ := s
    have h : (match fzB b, fzBs bs with
      | some d, some ds => some (d :: ds)
      | _, _ => none) = some ds := h
    cases e1 : fzB b with
    | none => simp only [e1] at h; cases h
    | some d =>
      cases e2 : fzBs bs with
      | none => simp only [e1, e2] at h; cases h
      | some ds' =>
        simp only [e1, e2] at h
        cases h
        obtain ⟨v', q1, q2⟩ := ih1 s1 e1 fun a m => k a (List.mem_append_left _ m)
        cases q1
        exact .cons q2 (ih2 s2 e2 fun a m => k a (List.mem_append_right _ m))
theorem Rel.freeze {K : PySem.W.Frag} {fr : Fr} {w : World} {σ : St} {H : Hp} {z : Z} {fp : Nat → List Addr} (R : Rel K fr w σ H z fp) {i : Nat} {b : B} {d : D} (hb : z.e[i]? = some b) (h : fzB b = some d) :
    ∃ w' fp', w.le w' ∧ Rel K fr w' σ H ⟨z.e.set i (.v d), z.s⟩ fp' ∧ (∃ v, slot σ i = some v ∧ Rep K w' v d) := by
  have l : w.le (w.adopt H (fp i)) := ⟨fun a o e => by
    show (if a ∈ fp i then H a else w.H0 a) = some o
    split
    · exact R.sub a o e
    · exact e, [], by simp [World.adopt]⟩
  have hi : i < z.e.length := (List.getElem?_eq_some_iff.mp hb).1
  have val := freeze_slot l (R.slots i b hb) h fun a m => by
    show (if a ∈ fp i then H a else w.H0 a) = H a
    rw [if_pos m]
  refine ⟨w.adopt H (fp i), fun j => if j = i then [] else fp j, l, ?_, val⟩
  refine ⟨fun a o e => ?_, World.le_trans R.ge l, R.frame, R.dom, fun a o e => ?_, by rw [List.length_set]; exact R.len, fun j b' e => ?_, fun j e => ?_, fun j a m => ?_, fun j => ?_, fun j k a m m' => ?_, R.shl, fun n l' u e e' => (R.sh n l' u e e').mono l fun _ _ _ q => q, R.shd, fun a m => ⟨?_, (R.sh0 a m).2⟩⟩
  · have e' : (if a ∈ fp i then H a else w.H0 a) = some o := e
    split at e'
    · exact e'
    · exact R.sub a o e'
  · have e' : (if a ∈ fp i then H a else w.H0 a) = some o := e
    split at e'
    · rename_i m; exact .inr (R.own i a m).2.2
    · exact R.fresh a o e'
  · by_cases hj : j = i
    · subst hj
      rw [List.getElem?_set_self hi] at e
      cases e
      rw [if_pos rfl]
      exact ⟨rfl, val⟩
    · rw [List.getElem?_set_ne (Ne.symm hj)] at e
      rw [if_neg hj]
      exact SlotR.mono l (fun _ _ _ q => q) (R.slots j b' e)
  · by_cases hj : j = i
    · rw [if_pos hj]
    · rw [List.getElem?_set_ne (Ne.symm hj)] at e
      rw [if_neg hj]
      exact R.away j e
  · by_cases hj : j = i
    · rw [if_pos hj] at m; cases m
    · rw [if_neg hj] at m
      obtain ⟨a1, a2⟩ := R.own j a m
      refine ⟨?_, a2⟩
      show (if a ∈ fp i then H a else w.H0 a) = none
      rw [if_neg fun m' => hj (R.dj _ _ _ m m')]
      exact a1
  · by_cases hj : j = i
    · rw [if_pos hj]; exact List.nodup_nil
    · rw [if_neg hj]; exact R.nd j
  · by_cases hj : j = i
    · rw [if_pos hj] at m; cases m
    · by_cases hk : k = i
      · rw [if_pos hk] at m'; cases m'
      · rw [if_neg hj] at m
        rw [if_neg hk] at m'
        exact R.dj j k a m m'
  · show (if a ∈ fp i then H a else w.H0 a) = none
    rw [if_neg fun m' => (R.own i a m').2.1 m]
    exact (R.sh0 a m).1

theorem ted_var (i : Nat) : TED F (tVar i) (mVar i) := fun fr w σ H z fp Q R h => by
  unfold mVar at h
  cases e : z.e[i]? with
  | none => simp only [e] at h; exact h.elim
  | some b =>
    have go : ∀ {b : B}, z.e[i]? = some b → Ens F fr w σ (match fzB b with
        | some d => M.R.ok d ⟨z.e.set i (.v d), z.s⟩
        | none => .no) (fun d w' H' _ _ => ∀ v, Rep F.K w' v d → Q v H') → tVar i σ H Q := fun {b} e h => by
      cases e2 : fzB b with
      | none => simp only [e2] at h; exact h.elim
      | some d =>
        simp only [e2] at h
        obtain ⟨w', fp', l, R', v, h1, h2⟩ := R.freeze e e2
        exact ⟨v, slot_get h1, h w' H fp' R' l v h2⟩
    cases b with
    | v d =>
      simp only [e] at h
      obtain ⟨_, v, h1, h2⟩ := R.slots i _ e
      exact ⟨v, slot_get h1, h w H fp R (World.le_refl w) v h2⟩
    | un => simp only [e] at h; exact go e h
    | ml ds => simp only [e] at h; exact go e h
    | md ks ds => simp only [e] at h; exact go e h
    | ms bs => simp only [e] at h; exact go e h
theorem tnd_pk (i : Nat) : TND F (tVar i) (mPk i) := fun fr w σ H z fp Q R h => by
  unfold mPk at h
  cases e : z.e[i]? with
  | none => simp only [e, Option.bind_none] at h; exact h.elim
  | some b =>
    cases e2 : pk b with
    | none => simp only [e, Option.bind_some, e2] at h; exact h.elim
    | some d =>
      simp only [e, Option.bind_some, e2] at h
      have s := R.slots i b e
      have fin : ∀ v, slot σ i = some v → RepN F.K w H v d → tVar i σ H Q := fun v h1 h2 => ⟨v, slot_get h1, h w H fp R (World.le_refl w) v h2⟩
      cases b with
      | un => cases e2
      | v d' => cases e2; obtain ⟨_, v, h1, h2⟩ := s; exact fin v h1 (.of h2)
      | ml ds => cases e2; obtain ⟨a, vs, h1, _, q, r⟩ := s; exact fin _ h1 (.ml q r)
      | md ks ds => cases e2; obtain ⟨a, kvs, h1, _, q, rfl, r⟩ := s; exact fin _ h1 (.md q r)
      | ms _ => cases e2
theorem pe_name {X : Cx} {x : Str} {pos : Pos} (hX : F.C X) (i : Nat) (hN : F.N[i]? = some x) (hv : Vis F.sc x) (hd : (x == ("__debug__" : Str)) = false) (hcd : (x == ("__classdict__" : Str)) = false) : PE X (.Name x pos) (tVar i) := by
  obtain ⟨_, _, _, _, _, e1, e2, _⟩ := F.eqs X hX
  exact pe_var (by rw [e1]; exact hN) (by rw [e2]; exact hv) hd hcd
theorem se_var (i : Nat) {x : Str} {pos : Pos} (hN : F.N[i]? = some x := by rfl) (hv : Vis F.sc x := by first | exact Or.inl rfl | exact Or.inr (Or.inl rfl) | exact Or.inr (Or.inr rfl)) (hd : (x == ("__debug__" : Str)) = false := by decide) (hcd : (x == ("__classdict__" : Str)) = false := by decide) :
    SE F (.Name x pos) (mVar i) := ⟨_, fun X hX => pe_name hX i hN hv hd hcd, ted_var i⟩
theorem sn_var (i : Nat) {x : Str} {pos : Pos} (hN : F.N[i]? = some x := by rfl) (hv : Vis F.sc x := by first | exact Or.inl rfl | exact Or.inr (Or.inl rfl) | exact Or.inr (Or.inr rfl)) (hd : (x == ("__debug__" : Str)) = false := by decide) (hcd : (x == ("__classdict__" : Str)) = false := by decide) :
    SN F (.Name x pos) (mPk i) := ⟨_, fun X hX => pe_name hX i hN hv hd hcd, tnd_pk i⟩
theorem SE.n {e : Expr} {m : Mi D} (h : SE F e m) : SN F e m := by
  obtain ⟨te, h1, h2⟩ := h.ex
  exact ⟨te, h1, fun fr w σ H z fp Q R q => h2 fr w σ H z fp Q R (q.imp fun d w' H' z' fp' _ _ k v r => k v (.of r))⟩
theorem ted_c {v : V} {d : D} (h : ∀ K w, Rep K w v d) : TED F (tC v) (mPure d) := fun fr w σ H z fp Q R q => q w H fp R (World.le_refl w) v (h _ _)
theorem se_int {i : Int} {j pos} : SE F (.Constant (.int i) j pos) (mPure (.int i)) := ⟨_, fun _ _ => pe_int, ted_c fun _ _ => .int i⟩
theorem se_bl {b : Bool} {j pos} : SE F (.Constant (.bool b) j pos) (mPure (.bl b)) := ⟨_, fun _ _ => pe_bl, ted_c fun _ _ => .bl b⟩
theorem se_non {j pos} : SE F (.Constant .none j pos) (mPure .non) := ⟨_, fun _ _ => pe_non, ted_c fun _ _ => .non⟩
theorem se_str {x : Str} {j pos} : SE F (.Constant (.str x) j pos) (mPure (.str x)) := ⟨_, fun _ _ => pe_str, ted_c fun _ _ => .str x⟩
/-- a module's constant -/
theorem se_glob {x : Str} {pos : Pos} {u : Value} {v : V} {d : D} (hg : F.sc.names.lookup x = some .globalImplicit) (hm : F.mg x = some u) (r : RelV v u) (h : ∀ w, Rep F.K w v d) (hdb : (x == ("__debug__" : Str)) = false := by decide) : SE F (.Name x pos) (mPure d) :=
  ⟨tC v, fun X hX => by
    obtain ⟨_, _, _, e3, _, _, e2, _⟩ := F.eqs X hX
    exact pe_glob (by show X.env.scope.names.lookup x = _; rw [e2]; exact hg) (by rw [e3]; exact hm) r hdb, fun fr w σ H z fp Q R q => q w H fp R (World.le_refl w) v (h w)⟩
end
end M
namespace M
open PySem L2

/-! ## what a value is, by its data -/
section
variable {K : PySem.W.Frag} {fr : Fr} {w : World} {σ : St} {H : Hp} {z : Z} {fp : Nat → List Addr} {x : V}
theorem Rel.rd (R : Rel K fr w σ H z fp) {a : Addr} {u : HO} (r : Rd w.H0 a u) : Rd H a u := by
  rcases r with r | ⟨o, r⟩
  · exact .inl (R.sub _ _ r)
  · exact .inr ⟨o, R.sub _ _ r⟩
theorem Rel.sqT (R : Rel K fr w σ H z fp) {a : Addr} {vs : List V} (r : SqT K w.H0 a vs) : SqT K H a vs := by
  rcases r with r | r
  · exact .inl (R.rd r)
  · exact .inr r
theorem Rel.sqL (R : Rel K fr w σ H z fp) {a : Addr} {vs : List V} (r : SqL K w.H0 a vs) : SqL K H a vs := by
  rcases r with r | r
  · exact .inl (R.rd r)
  · exact .inr r
theorem RepN.non (h : RepN K w H x .non) : x = .non := by cases h with | of h => cases h; rfl
theorem RepN.bl {b : Bool} (h : RepN K w H x (.bl b)) : x = .bl b := by cases h with | of h => cases h; rfl
theorem RepN.int {i : Int} (h : RepN K w H x (.int i)) : x = .int i := by cases h with | of h => cases h; rfl
theorem RepN.str {s : Str} (h : RepN K w H x (.str s)) : x = .str s := by cases h with | of h => cases h; rfl
theorem RepN.tup (R : Rel K fr w σ H z fp) {ds : List D} (h : RepN K w H x (.tup ds)) : ∃ a vs, x = .ref a ∧ SqT K H a vs ∧ RepL K w vs ds := by
  cases h with | of h => cases h with | tup s r => exact ⟨_, _, rfl, R.sqT s, r⟩
theorem RepN.lst (R : Rel K fr w σ H z fp) {ds : List D} (h : RepN K w H x (.lst ds)) : ∃ a vs, x = .ref a ∧ H a = some (.lst vs) ∧ RepL K w vs ds := by
  cases h with
  | of h => cases h with | lst s r => exact ⟨_, _, rfl, R.sub _ _ s, r⟩
  | ml s r => exact ⟨_, _, rfl, s, r⟩
theorem RepN.fz (R : Rel K fr w σ H z fp) {ds : List D} (h : RepN K w H x (.fz ds)) : ∃ a vs, x = .ref a ∧ SqL K H a vs ∧ RepL K w vs ds := by
  cases h with | of h => cases h with | fz s r => exact ⟨_, _, rfl, R.sqL s, r⟩
theorem RepN.dic (R : Rel K fr w σ H z fp) {ks : List Key} {ds : List D} (h : RepN K w H x (.dic ks ds)) : ∃ a kvs, x = .ref a ∧ H a = some (.dK kvs) ∧ kvs.map (·.1) = ks ∧ RepL K w (kvs.map (·.2)) ds := by
  cases h with
  | of h => cases h with | dic s e e' r => subst e'; exact ⟨_, _, rfl, R.sub _ _ s, e, r⟩
  | md s r => exact ⟨_, _, rfl, s, rfl, r⟩
/-- the items of a list or tuple -/
def items : D → Option (List D)
  | .tup ds => some ds
  | .lst ds => some ds
  | .fz ds => some ds
  | _ => none
theorem RepN.seq (R : Rel K fr w σ H z fp) {d : D} {ds : List D} (h : RepN K w H x d) (e : items d = some ds) : ∃ a vs, x = .ref a ∧ (SqL K H a vs ∨ SqT K H a vs) ∧ RepL K w vs ds := by
  cases d with
  | tup l => cases e; obtain ⟨a, vs, q1, q2, q3⟩ := h.tup R; exact ⟨a, vs, q1, .inr q2, q3⟩
  | lst l => cases e; obtain ⟨a, vs, q1, q2, q3⟩ := h.lst R; exact ⟨a, vs, q1, .inl (.inl (.inl q2)), q3⟩
  | fz l => cases e; obtain ⟨a, vs, q1, q2, q3⟩ := h.fz R; exact ⟨a, vs, q1, .inl q2, q3⟩
  | _ => cases e
end

/-! ## operators on values -/
def OpN (F : Fam) (r : R2) (g : D → D → Option D) : Prop := ∀ fr w σ H z fp x y a b d (Q : VK), Rel F.K fr w σ H z fp → RepN F.K w H x a → RepN F.K w H y b → g a b = some d →
  (∀ v w' H' fp', Rel F.K fr w' σ H' z fp' → w.le w' → Rep F.K w' v d → Q v H') → r x y H Q
def mOp (g : D → D → Option D) (ma mb : Mi D) : Mi D := mBind ma fun a => mBind mb fun b => mLift (g a b)
/-- the left one is a name, read when the right one is known -/
def mOpP (g : D → D → Option D) (i : Nat) (mb : Mi D) : Mi D := fun z => match (z.e[i]?).bind pk with
  | some _ => mBind mb (fun b => mBind (mPk i) fun a => mLift (g a b)) z
  | none => .no
section
variable {F : Fam} {r : R2} {g : D → D → Option D} {ta tb : TE} {ma mb : Mi D}
theorem pk_there {K : PySem.W.Frag} {fr : Fr} {w : World} {σ : St} {H : Hp} {z : Z} {fp : Nat → List Addr} (R : Rel K fr w σ H z fp) {i : Nat} {d : D} (e : (z.e[i]?).bind pk = some d) : ∃ v, slot σ i = some v ∧ RepN K w H v d := by
  cases e1 : z.e[i]? with
  | none => rw [e1] at e; cases e
  | some b =>
    rw [e1] at e
    have e2 : pk b = some d := e
    have s := R.slots i b e1
    cases b with
    | un => cases e2
    | v d' => cases e2; obtain ⟨_, v, h1, h2⟩ := s; exact ⟨v, h1, .of h2⟩
    | ml ds => cases e2; obtain ⟨a, vs, h1, _, q, r⟩ := s; exact ⟨_, h1, .ml q r⟩
    | md ks ds => cases e2; obtain ⟨a, kvs, h1, _, q, rfl, r⟩ := s; exact ⟨_, h1, .md q r⟩
    | ms _ => cases e2
theorem ted_op (ho : OpN F r g) (ha : TED F ta ma) (hb : TND F tb mb) : TED F (tOp r ta tb) (mOp g ma mb) := fun fr w σ H z fp Q R h => by
  refine ha fr w σ H z fp _ R (h.cut.imp fun a w1 H1 z1 fp1 R1 l1 k v1 r1 => ?_)
  refine hb fr w1 σ H1 z1 fp1 _ R1 (k.2.2.cut.imp fun b w2 H2 z2 fp2 R2 l2 k2 v2 r2 => ?_)
  cases e : g a b with
  | none => rw [e] at k2; exact k2.2.2.elim
  | some d =>
    rw [e] at k2
    exact ho fr w2 σ H2 z2 fp2 v1 v2 a b d Q R2 (.of (r1.mono l2)) r2 e fun v w' H' fp' R' l' rv => k2.2.2 w' H' fp' R' l' v rv
theorem ted_opP (i : Nat) (ho : OpN F r g) (hb : TND F tb mb) : TED F (tOp r (tVar i) tb) (mOpP g i mb) := fun fr w σ H z fp Q R h => by
  unfold mOpP at h
  cases e0 : (z.e[i]?).bind pk with
  | none => rw [e0] at h; exact h.elim
  | some d0 =>
    rw [e0] at h
    obtain ⟨v1, s1, _⟩ := pk_there R e0
    refine ⟨v1, slot_get s1, ?_⟩
    refine hb fr w σ H z fp _ R (h.cut.imp fun b w2 H2 z2 fp2 R2 l2 k2 v2 r2 => ?_)
    have k2 := k2.2.2
    unfold mBind mPk at k2
    cases e : (z2.e[i]?).bind pk with
    | none => rw [e] at k2; exact k2.elim
    | some a =>
      rw [e] at k2
      obtain ⟨v1', s1', ra⟩ := pk_there R2 e
      rw [s1] at s1'
      cases s1'
      have k2 : Ens F fr w2 σ (mLift (g a b) z2) _ := k2
      cases e' : g a b with
      | none => rw [e'] at k2; exact k2.elim
      | some d =>
        rw [e'] at k2
        exact ho fr w2 σ H2 z2 fp2 v1 v2 a b d Q R2 ra r2 e' fun v w' H' fp' R' l' rv => k2 w' H' fp' R' l' v rv
/-! ### the operators -/
theorem opr_or {X : Cx} {f : Value → Value → Sem Value} {r1 r2 : R2} (h1 : OpR X f r1) (h2 : OpR X f r2) : OpR X f (fun x y H Q => r1 x y H Q ∨ r2 x y H Q) := by
  intro pins s σ H x y v u Q I rx ry h
  rcases h with h | h
  · exact h1 pins s σ H x y v u Q I rx ry h
  · exact h2 pins s σ H x y v u Q I rx ry h
theorem opn_or {r1 r2 : R2} {g1 g2 : D → D → Option D} (h1 : OpN F r1 g1) (h2 : OpN F r2 g2) : OpN F (fun x y H Q => r1 x y H Q ∨ r2 x y H Q) (fun a b => match g1 a b with | some d => some d | none => g2 a b) := by
  intro fr w σ H z fp x y a b d Q R ra rb e q
  cases e1 : g1 a b with
  | some d' =>
    simp only [e1] at e
    cases e
    exact .inl (h1 fr w σ H z fp x y a b _ Q R ra rb e1 q)
  | none =>
    simp only [e1] at e
    exact .inr (h2 fr w σ H z fp x y a b d Q R ra rb e q)
/-- on two ints -/
def gI (f : Int → Int → D) : D → D → Option D
  | .int i, .int j => some (f i j)
  | _, _ => none
def gIc (c : Int → Int → Bool) (f : Int → Int → D) : D → D → Option D
  | .int i, .int j => if c i j then some (f i j) else none
  | _, _ => none
theorem opn_I0 {f : Int → Int → V} {f' : Int → Int → D} (h : ∀ K w i j, Rep K w (f i j) (f' i j)) : OpN F (rI0 f) (gI f') := by
  intro fr w σ H z fp x y a b d Q R ra rb e q
  unfold gI at e
  split at e
  · rename_i i j
    cases e
    exact ⟨i, j, ra.int, rb.int, q _ w H fp R (World.le_refl w) (h _ _ i j)⟩
  · cases e
theorem opn_I {C : Int → Int → Prop} {c : Int → Int → Bool} {f : Int → Int → V} {f' : Int → Int → D} (hc : ∀ i j, c i j = true → C i j) (h : ∀ K w i j, Rep K w (f i j) (f' i j)) : OpN F (rI C f) (gIc c f') := by
  intro fr w σ H z fp x y a b d Q R ra rb e q
  unfold gIc at e
  split at e
  · rename_i i j
    split at e
    · rename_i hh
      cases e
      exact ⟨i, j, ra.int, rb.int, hc i j hh, q _ w H fp R (World.le_refl w) (h _ _ i j)⟩
    · cases e
  · cases e
def cMul (i j : Int) : Bool := decide ((-(2 ^ 64) < i ∧ i < 2 ^ 64) ∨ (-(2 ^ 64) < j ∧ j < 2 ^ 64))
def cDiv (i j : Int) : Bool := decide (j ≠ 0 ∧ j.natAbs < 1073741824)
def cPow (i j : Int) : Bool := decide (0 ≤ j ∧ j ≤ 1000000 ∧ i.natAbs < 2 ^ 64)
def gStrCat : D → D → Option D
  | .str x, .str y => if x.length + y.length ≤ sizeLine then some (.str (x ++ y)) else none
  | _, _ => none
def gTupCat : D → D → Option D
  | .tup (a :: as), .tup bs => if as.length + 1 + bs.length ≤ sizeLine then some (.tup (a :: as ++ bs)) else none
  | _, _ => none
def gLstCat : D → D → Option D
  | .lst as, .lst bs => if as.length + bs.length ≤ sizeLine then some (.lst (as ++ bs)) else none
  | _, _ => none
def gRep : D → D → Option D
  | .lst as, .int k => if -(2 ^ 63) ≤ k ∧ k < 2 ^ 63 ∧ as.length * k.toNat ≤ sizeLine then some (.lst (List.replicate k.toNat as).flatten) else none
  | _, _ => none
theorem Rel.put (R : Rel K fr w σ H z fp) {p : Addr} {vs : List V} {ds : List D} (h : H p = none) (r : RepL K w vs ds) : Rel K fr (w.add p (.lst vs)) σ (upd H p (.lst vs)) z fp ∧ w.le (w.add p (.lst vs)) ∧ Rep K (w.add p (.lst vs)) (.ref p) (.lst ds) :=
  ⟨R.alloc h, World.le_add (R.new0 h), .lst (by show upd w.H0 p _ p = _; rw [upd_same]) (r.mono (World.le_add (R.new0 h)))⟩
theorem Rel.putT (R : Rel K fr w σ H z fp) {p : Addr} {vs : List V} {ds : List D} (h : H p = none) (r : RepL K w vs ds) : Rel K fr (w.add p (.tup vs)) σ (upd H p (.tup vs)) z fp ∧ w.le (w.add p (.tup vs)) ∧ Rep K (w.add p (.tup vs)) (.ref p) (.tup ds) :=
  ⟨R.alloc h, World.le_add (R.new0 h), .tup (.inl (.inl (by show upd w.H0 p _ p = _; rw [upd_same]))) (r.mono (World.le_add (R.new0 h)))⟩
theorem opn_strCat : OpN F (fun x y H Q => ∃ i j, x = .str i ∧ y = .str j ∧ i.length + j.length ≤ sizeLine ∧ Q (.str (i ++ j)) H) gStrCat := by
  intro fr w σ H z fp x y a b d Q R ra rb e q
  unfold gStrCat at e
  split at e
  · split at e
    · rename_i hh
      cases e
      exact ⟨_, _, ra.str, rb.str, hh, q _ w H fp R (World.le_refl w) (.str _)⟩
    · cases e
  · cases e
theorem opn_tupCat : OpN F (rCatT F.K) gTupCat := by
  intro fr w σ H z fp x y a b d Q R ra rb e q
  unfold gTupCat at e
  split at e
  · rename_i a as bs
    split at e
    · rename_i hh
      cases e
      obtain ⟨p1, vs1, rfl, s1, r1⟩ := ra.tup R
      obtain ⟨p2, vs2, rfl, s2, r2⟩ := rb.tup R
      have l1 := r1.length
      have l2 := r2.length
      refine ⟨p1, p2, vs1, vs2, rfl, rfl, s1, s2, fun z => by subst z; simp at l1, by rw [l1, l2]; exact hh, fun e => ?_, fun e p hp => ?_⟩
      · subst e
        have : bs = [] := List.length_eq_zero_iff.mp l2.symm
        subst this
        cases ra with
        | of ra => exact q _ w H fp R (World.le_refl w) (by rw [List.append_nil]; exact ra)
      · obtain ⟨a1, a2, a3⟩ := R.putT hp (r1.append r2)
        exact q _ _ _ fp a1 a2 a3
    · cases e
  · cases e
theorem opn_lstCat : OpN F rCat gLstCat := by
  intro fr w σ H z fp x y a b d Q R ra rb e q
  unfold gLstCat at e
  split at e
  · split at e
    · rename_i hh
      cases e
      obtain ⟨p1, vs1, rfl, s1, r1⟩ := ra.lst R
      obtain ⟨p2, vs2, rfl, s2, r2⟩ := rb.lst R
      refine ⟨p1, p2, vs1, vs2, rfl, rfl, s1, s2, by rw [r1.length, r2.length]; exact hh, fun p hp => ?_⟩
      obtain ⟨a1, a2, a3⟩ := R.put hp (r1.append r2)
      exact q _ _ _ fp a1 a2 a3
    · cases e
  · cases e
theorem RepL.rep {K : PySem.W.Frag} {w : World} {vs : List V} {ds : List D} (h : RepL K w vs ds) : ∀ n : Nat, RepL K w (List.replicate n vs).flatten (List.replicate n ds).flatten
  | 0 => .nil
  | n + 1 => by
    rw [List.replicate_succ, List.replicate_succ, List.flatten_cons, List.flatten_cons]
    exact h.append (RepL.rep h n)
theorem opn_rep : OpN F rRep gRep := by
  intro fr w σ H z fp x y a b d Q R ra rb e q
  unfold gRep at e
  split at e
  · split at e
    · rename_i hh
      cases e
      obtain ⟨p1, vs1, rfl, s1, r1⟩ := ra.lst R
      refine ⟨p1, _, vs1, rfl, rb.int, s1, hh.1, hh.2.1, by rw [r1.length]; exact hh.2.2, fun p hp => ?_⟩
      obtain ⟨a1, a2, a3⟩ := R.put hp (r1.rep _)
      exact q _ _ _ fp a1 a2 a3
    · cases e
  · cases e
section
open PySem.Spec PyProof.Rows
theorem tuple_addW0 (l b : Addr) (items items2 : Array Value) (n n2 : Nat) (dd dd2 : Option Addr) (sl sl2 : Array (Option Value)) (hc0 : items.isEmpty = true) :
    Meets (Builtin.«tuple.__add__» ⟨[.ref l, .ref b], []⟩) (fun _ R s => s.heap.get? l = some { cls := .type "tuple", dict := dd, data := .seq items n, slots := sl } ∧ s.heap.get? b = some { cls := .type "tuple", dict := dd2, data := .seq items2 n2, slots := sl2 } ∧ R (.ok (.ret (Value.ref b))) { s with heap := s.heap, toks := s.toks }) :=
  .of_wp fun prog w A R s h => by obtain ⟨hp, g, d, tk, os⟩ := s; obtain ⟨hl, hb, h⟩ := h; have f1 := AutoSeq1.idx_int; have f2 := AutoSeq1.sub_tuple_tuple; have f3 := AutoSeq1.sub_list_list; have f4 := AutoSeq1.sub_tuple_list; have f5 := AutoSeq1.sub_list_tuple; wp_walk using wpAny_loadPart' hl, wpAny_loadPart' hb; exact ⟨_, rfl, h⟩
theorem cat_tup0 {prog : Program} {w : PySem.World} {A : Around} {E : Value → Shared → Prop} {s : Shared} {t b : Addr} {ws : List Value} {Q : Value → Shared → Prop} (ht : IsTup s.heap t ([] : List Value).toArray) (hb : IsTup s.heap b ws.toArray)
    (h1 : Q (.ref b) s) : wpAny (model prog w) A (binaryOp .Add (.ref t) (.ref b)) Q E s := by
  obtain ⟨⟨cls, dd, data, sl⟩, ho, hc, n, hd⟩ := id ht
  obtain ⟨⟨cls2, dd2, data2, sl2⟩, ho2, hc2, n2, hd2⟩ := id hb
  simp only at hc hd hc2 hd2
  subst hc hd hc2 hd2
  exact concat_meets ⟨_, ho, rfl⟩ ⟨_, ho2, rfl⟩ noFill_tuple_add seq_tuple_add PySem.F.slot_tuple_add PySem.F.entry_tuple_add (PySem.F.args_tuple_add_2 _ _)
      (tuple_addW0 t b _ ws.toArray n n2 dd dd2 sl sl2 rfl) ⟨ho, ho2, h1⟩
def rCatT0 (K : PySem.W.Frag) : R2 := fun x y H Q => ∃ a b ys, x = .ref a ∧ y = .ref b ∧ SqT K H a [] ∧ SqT K H b ys ∧ Q (.ref b) H
theorem op_catT0 {X : Cx} : OpR X (binaryOp .Add) (rCatT0 X.K) := by
  intro pins s σ H x y v u Q I rx ry h
  obtain ⟨a, b, ys, rfl, rfl, ha, hb, q⟩ := h
  cases rx
  cases ry
  obtain ⟨its, r1, p1, _⟩ := I.tuple ha
  obtain ⟨its2, r2, p2, _⟩ := I.tuple hb
  cases r1
  exact cat_tup0 p1 p2 ⟨.ref b, H, I, rfl, q⟩
end
/-- () + t is t -/
def gTupCat0 : D → D → Option D
  | .tup [], .tup bs => some (.tup bs)
  | _, _ => none
theorem opn_tupCat0 : OpN F (rCatT0 F.K) gTupCat0 := by
  intro fr w σ H z fp x y a b d Q R ra rb e q
  unfold gTupCat0 at e
  split at e
  · cases e
    obtain ⟨p1, vs1, rfl, s1, r1⟩ := ra.tup R
    obtain ⟨p2, vs2, e2, s2, r2⟩ := rb.tup R
    cases r1
    subst e2
    cases rb with
    | of rb => exact ⟨p1, p2, vs2, rfl, rfl, s1, s2, q _ w H fp R (World.le_refl w) rb⟩
  · cases e
/-! equality -/
mutual
def toP : D → Option PyData
  | .non => some .none
  | .bl b => some (.bool b)
  | .int i => some (.int i)
  | .str x => some (.str x)
  | .tup ds => (toPs ds).map .tuple
  | .lst ds => (toPs ds).map .list
  | .fz _ => none
  | .dic _ _ => none
  | .ref _ => none
def toPs : List D → Option (List PyData)
  | [] => some []
  | d :: ds => match toP d, toPs ds with
    | some p, some ps => some (p :: ps)
    | _, _ => none
end
section
variable {K : PySem.W.Frag} {fr : Fr} {w : World} {σ : St} {H : Hp} {z : Z} {fp : Nat → List Addr}
mutual
theorem Rep.dp (R : Rel K fr w σ H z fp) : ∀ (d : D) (v : V) (p : PyData), Rep K w v d → toP d = some p → Dp K H v p
  | .non, _, _, h, e => by cases h; cases e; exact .non
  | .bl b, _, _, h, e => by cases h; cases e; exact .bl b
  | .int i, _, _, h, e => by cases h; cases e; exact .int i
  | .str x, _, _, h, e => by cases h; cases e; exact .str x
  | .tup ds, _, p, h, e => by
    unfold toP at e
    cases h with
    | tup s r =>
      cases e1 : toPs ds with
      | none => rw [e1] at e; cases e
      | some ps => rw [e1] at e; cases e; exact .tup (R.sqT s) (RepL.dp R ds _ ps r e1)
  | .lst ds, _, p, h, e => by
    unfold toP at e
    cases h with
    | lst s r =>
      cases e1 : toPs ds with
      | none => rw [e1] at e; cases e
      | some ps => rw [e1] at e; cases e; exact .lst (.inl (.inl (R.sub _ _ s))) (RepL.dp R ds _ ps r e1)
  | .fz _, _, _, _, e => by cases e
  | .dic _ _, _, _, _, e => by cases e
  | .ref _, _, _, _, e => by cases e
theorem RepL.dp (R : Rel K fr w σ H z fp) : ∀ (ds : List D) (vs : List V) (ps : List PyData), RepL K w vs ds → toPs ds = some ps → DpAll K H vs ps
  | [], _, _, h, e => by cases h; cases e; exact .nil
  | d :: ds, _, ps, h, e => by
    unfold toPs at e
    cases h with
    | cons h1 h2 =>
      cases e1 : toP d with
      | none => simp only [e1] at e; cases e
      | some p =>
        cases e2 : toPs ds with
        | none => simp only [e1, e2] at e; cases e
        | some qs => simp only [e1, e2] at e; cases e; exact .cons (Rep.dp R d _ p h1 e1) (RepL.dp R ds _ qs h2 e2)
end
theorem RepN.dp (R : Rel K fr w σ H z fp) {d : D} {v : V} {p : PyData} (h : RepN K w H v d) (e : toP d = some p) : Dp K H v p := by
  cases h with
  | of h => exact Rep.dp R d v p h e
  | ml s r =>
    rename_i a vs ds
    unfold toP at e
    cases e1 : toPs ds with
    | none => rw [e1] at e; cases e
    | some ps => rw [e1] at e; cases e; exact .lst (.inl (.inl s)) (RepL.dp R ds _ ps r e1)
  | md s r => cases e
end
def gEqv (f : Bool → Bool) (a b : D) : Option D := match toP a, toP b with
  | some p, some q => if SeqAt.shaped p = true ∧ SeqAt.shaped q = true then some (.bl (f (PyData.eqv p q))) else none
  | _, _ => none
def gEq : D → D → Option D := gEqv id
def gNe : D → D → Option D := gEqv not
theorem opn_eq : OpN F (rEqD F.K) gEq := by
  intro fr w σ H z fp x y a b d Q R ra rb e q
  unfold gEq gEqv at e
  split at e
  · rename_i p p' h1 h2
    split at e
    · rename_i hh
      cases e
      exact ⟨p, p', ra.dp R h1, rb.dp R h2, hh.1, hh.2, q _ w H fp R (World.le_refl w) (.bl _)⟩
    · cases e
  · cases e
theorem opn_ne : OpN F (rNeD F.K) gNe := by
  intro fr w σ H z fp x y a b d Q R ra rb e q
  unfold gNe gEqv at e
  split at e
  · rename_i p p' h1 h2
    split at e
    · rename_i hh
      cases e
      exact ⟨p, p', ra.dp R h1, rb.dp R h2, hh.1, hh.2, q _ w H fp R (World.le_refl w) (.bl _)⟩
    · cases e
  · cases e
def isNon : D → Bool
  | .non => true
  | _ => false
def gIs (f : Bool → Bool) (a : D) : D → Option D
  | .non => some (.bl (f (isNon a)))
  | _ => none
theorem repN_non_iff {K : PySem.W.Frag} {w : World} {H : Hp} {x : V} {a : D} (h : RepN K w H x a) : decide (x = V.non) = isNon a := by
  cases h with
  | of h => cases h <;> simp [isNon]
  | ml _ _ => simp [isNon]
  | md _ _ => simp [isNon]
theorem gIs_eq {f : Bool → Bool} {a b d : D} (e : gIs f a b = some d) : b = .non ∧ d = .bl (f (isNon a)) := by
  cases b <;> first | (cases e; exact ⟨rfl, rfl⟩) | cases e
theorem opn_is : OpN F (fun x y H Q => y = .non ∧ Q (.bl (decide (x = .non))) H) (gIs id) := by
  intro fr w σ H z fp x y a b d Q R ra rb e q
  obtain ⟨rfl, rfl⟩ := gIs_eq e
  refine ⟨rb.non, ?_⟩
  rw [repN_non_iff ra]
  exact q _ w H fp R (World.le_refl w) (.bl _)
theorem opn_isnot : OpN F (fun x y H Q => y = .non ∧ Q (.bl (!decide (x = .non))) H) (gIs not) := by
  intro fr w σ H z fp x y a b d Q R ra rb e q
  obtain ⟨rfl, rfl⟩ := gIs_eq e
  refine ⟨rb.non, ?_⟩
  rw [repN_non_iff ra]
  exact q _ w H fp R (World.le_refl w) (.bl _)
/-! in -/
def toV : D → Option V
  | .non => some .non
  | .bl b => some (.bl b)
  | .int i => some (.int i)
  | .str x => some (.str x)
  | _ => none
theorem Rep.toV {K : PySem.W.Frag} {w : World} {v u : V} {d : D} (h : Rep K w v d) (e : toV d = some u) : v = u ∧ flatV u = true := by
  cases h <;> first | (cases e; exact ⟨rfl, rfl⟩) | cases e
theorem RepN.toV {K : PySem.W.Frag} {w : World} {H : Hp} {v u : V} {d : D} (h : RepN K w H v d) (e : M.toV d = some u) : v = u ∧ flatV u = true := by
  cases h with
  | of h => exact h.toV e
  | ml _ _ => cases e
  | md _ _ => cases e
def toVs : List D → Option (List V)
  | [] => some []
  | d :: ds => match toV d, toVs ds with
    | some v, some vs => some (v :: vs)
    | _, _ => none
theorem RepL.toVs {K : PySem.W.Frag} {w : World} : ∀ {vs us : List V} {ds : List D}, RepL K w vs ds → M.toVs ds = some us → vs = us ∧ us.all flatV = true
  | _, _, [], h, e => by cases h; cases e; exact ⟨rfl, rfl⟩
  | _, _, d :: ds, h, e => by
    unfold M.toVs at e
    cases h with
    | cons h1 h2 =>
      split at e
      · rename_i v vs e1 e2
        cases e
        obtain ⟨rfl, q1⟩ := h1.toV e1
        obtain ⟨rfl, q2⟩ := RepL.toVs h2 e2
        exact ⟨rfl, by rw [List.all_cons, q1, q2]; rfl⟩
      · cases e
def gIn (f : Bool → Bool) (a b : D) : Option D := match toV a, (items b).bind toVs with
  | some v, some vs => some (.bl (f (inV v vs)))
  | _, _ => none
theorem opn_in_f {neg : Bool} {f : Bool → Bool} (hf : ∀ b, (if neg then !b else b) = f b) : OpN F (rIn F.K neg) (gIn f) := by
  intro fr w σ H z fp x y a b d Q R ra rb e q
  unfold gIn at e
  split at e
  · rename_i v vs e1 e2
    cases e
    cases e3 : items b with
    | none => rw [e3] at e2; cases e2
    | some ds =>
      rw [e3] at e2
      obtain ⟨rfl, q1⟩ := ra.toV e1
      obtain ⟨p, us, rfl, s, r⟩ := rb.seq R e3
      obtain ⟨rfl, q2⟩ := r.toVs e2
      refine ⟨p, us, rfl, s, q1, q2, ?_⟩
      rw [hf]
      exact q _ w H fp R (World.le_refl w) (.bl _)
  · cases e
theorem opn_in : OpN F (rIn F.K false) (gIn id) := opn_in_f fun _ => rfl
theorem opn_notIn : OpN F (rIn F.K true) (gIn not) := opn_in_f fun _ => rfl
/-- one sign in a text -/
def gSign (f : Bool → Bool) : D → D → Option D
  | .str x, .str y => match x.cps.toList with
    | [c] => some (.bl (f (decide (c ∈ y.cps.toList))))
    | _ => none
  | _, _ => none
theorem sign_eq {x : Str} {c : Nat} (h : x.cps.toList = [c]) : x = ⟨#[c]⟩ := by
  cases x with
  | mk cps => cases cps with
    | mk l => cases h; rfl
theorem opn_sign : OpN F (fun x y H Q => ∃ (c : Nat) (z : Str), x = .str ⟨#[c]⟩ ∧ y = .str z ∧ Q (.bl (decide (c ∈ z.cps.toList))) H) (gSign id) := by
  intro fr w σ H z fp x y a b d Q R ra rb e q
  unfold gSign at e
  split at e
  · split at e
    · rename_i hc
      cases e
      exact ⟨_, _, by rw [ra.str, sign_eq hc], rb.str, q _ w H fp R (World.le_refl w) (.bl _)⟩
    · cases e
  · cases e
theorem opn_notSign : OpN F (fun x y H Q => ∃ (c : Nat) (z : Str), x = .str ⟨#[c]⟩ ∧ y = .str z ∧ Q (.bl (!decide (c ∈ z.cps.toList))) H) (gSign not) := by
  intro fr w σ H z fp x y a b d Q R ra rb e q
  unfold gSign at e
  split at e
  · split at e
    · rename_i hc
      cases e
      exact ⟨_, _, by rw [ra.str, sign_eq hc], rb.str, q _ w H fp R (World.le_refl w) (.bl _)⟩
    · cases e
  · cases e
/-! items by index -/
def gIx : D → D → Option D
  | .str x, .int i => if x.length ≤ sizeLine then (atI x.cps.toList i).map fun c => .str ⟨#[c]⟩ else none
  | a, .int i => (items a).bind fun ds => atI ds i
  | _, _ => none
theorem RepL.atI {K : PySem.W.Frag} {w : World} {vs : List V} {ds : List D} {i : Int} {d : D} (h : RepL K w vs ds) (e : L2.atI ds i = some d) : ∃ v, L2.atI vs i = some v ∧ Rep K w v d := by
  unfold L2.atI at e ⊢
  rw [h.length]
  cases e1 : ixN ds.length i with
  | none => rw [e1] at e; cases e
  | some j =>
    rw [e1] at e
    exact h.get e
theorem opn_ix : OpN F (rIx F.K) gIx := by
  intro fr w σ H z fp x y a b d Q R ra rb e q
  unfold gIx at e
  split at e
  · rename_i s i
    split at e
    · rename_i hs
      cases e1 : L2.atI s.cps.toList i with
      | none => rw [e1] at e; cases e
      | some c => rw [e1] at e; cases e; exact .inr (.inr ⟨s, i, c, ra.str, rb.int, hs, e1, q _ w H fp R (World.le_refl w) (.str _)⟩)
    · cases e
  · rename_i i _
    cases e3 : items a with
    | none => rw [e3] at e; cases e
    | some ds =>
      rw [e3] at e
      obtain ⟨p, vs, rfl, s, r⟩ := ra.seq R e3
      obtain ⟨v, h1, h2⟩ := r.atI e
      rcases s with s | s
      · exact .inl ⟨p, vs, i, v, rfl, rb.int, s, h1, q v w H fp R (World.le_refl w) h2⟩
      · exact .inr (.inl ⟨p, vs, i, v, rfl, rb.int, s, h1, q v w H fp R (World.le_refl w) h2⟩)
  · cases e
end
end M
namespace M
open PySem L2
section
variable {F : Fam} {e a b c : Expr} {pos : Pos} {m ma mb mc : Mi D}

/-! ## operators in expressions -/
section
variable {r r' : R2} {g g' : D → D → Option D}
theorem se_op {op : Operator} (ho : ∀ X, F.C X → OpR X (binaryOp op) r) (hn : OpN F r g) (ha : SE F a ma) (hb : SN F b mb) : SE F (.BinOp a op b pos) (mOp g ma mb) := by
  obtain ⟨ta, a1, a2⟩ := ha.ex
  obtain ⟨tb, b1, b2⟩ := hb.ex
  exact ⟨_, fun X hX => pe_op (ho X hX) (a1 X hX) (b1 X hX), ted_op hn a2 b2⟩
theorem se_opP (i : Nat) {op : Operator} {x : Str} {p : Pos} (ho : ∀ X, F.C X → OpR X (binaryOp op) r) (hn : OpN F r g) (hb : SN F b mb) (hN : F.N[i]? = some x) (hv : Vis F.sc x) (hd : (x == ("__debug__" : Str)) = false) (hcd : (x == ("__classdict__" : Str)) = false) :
    SE F (.BinOp (.Name x p) op b pos) (mOpP g i mb) := by
  obtain ⟨tb, b1, b2⟩ := hb.ex
  exact ⟨_, fun X hX => pe_op (ho X hX) (pe_name hX i hN hv hd hcd) (b1 X hX), ted_opP i hn b2⟩
theorem se_cmp {op : CmpOp} (ho : ∀ X, F.C X → OpR X (compareOp op) r) (hn : OpN F r g) (ha : SE F a ma) (hb : SN F b mb) (hm : behindInMarks op b = false) : SE F (.Compare a [op] [b] pos) (mOp g ma mb) := by
  obtain ⟨ta, a1, a2⟩ := ha.ex
  obtain ⟨tb, b1, b2⟩ := hb.ex
  exact ⟨_, fun X hX => pe_cmpR (ho X hX) (a1 X hX) (b1 X hX) hm, ted_op hn a2 b2⟩
theorem se_cmpP (i : Nat) {op : CmpOp} {x : Str} {p : Pos} (ho : ∀ X, F.C X → OpR X (compareOp op) r) (hn : OpN F r g) (hb : SN F b mb) (hm : behindInMarks op b = false) (hN : F.N[i]? = some x) (hv : Vis F.sc x) (hd : (x == ("__debug__" : Str)) = false) (hcd : (x == ("__classdict__" : Str)) = false) :
    SE F (.Compare (.Name x p) [op] [b] pos) (mOpP g i mb) := by
  obtain ⟨tb, b1, b2⟩ := hb.ex
  exact ⟨_, fun X hX => pe_cmpR (ho X hX) (pe_name hX i hN hv hd hcd) (b1 X hX) hm, ted_opP i hn b2⟩
/-- a < b < c, the middle one asked once -/
def mChain (g g' : D → D → Option D) (ma mb mc : Mi D) : Mi D := mBind ma fun x => mBind mb fun y => mBind (mLift (g x y)) fun d => match d with
  | .bl true => mBind mc fun v => mLift (g' y v)
  | .bl false => mPure (.bl false)
  | _ => mNo
theorem se_chain {op op' : CmpOp} (ho : ∀ X, F.C X → OpR X (compareOp op) r) (hn : OpN F r g) (ho' : ∀ X, F.C X → OpR X (compareOp op') r') (hn' : OpN F r' g') (ha : SE F a ma) (hb : SE F b mb) (hc : SN F c mc)
    (hm : lastMarks [op, op'] [b, c] = false := by with_unfolding_all rfl) : SE F (.Compare a [op, op'] [b, c] pos) (mChain g g' ma mb mc) := by
  obtain ⟨ta, a1, a2⟩ := ha.ex
  obtain ⟨tb, b1, b2⟩ := hb.ex
  obtain ⟨tc, c1, c2⟩ := hc.ex
  refine ⟨_, fun X hX => pe_chain (ho X hX) (ho' X hX) (a1 X hX) (b1 X hX) (c1 X hX) hm, fun fr w σ H z fp Q R h => ?_⟩
  refine a2 fr w σ H z fp _ R (h.cut.imp fun x w1 H1 z1 fp1 R1 l1 k v1 r1 => ?_)
  refine b2 fr w1 σ H1 z1 fp1 _ R1 (k.2.2.cut.imp fun y w2 H2 z2 fp2 R2 l2 k2 v2 r2 => ?_)
  have k2 := k2.2.2
  cases e : g x y with
  | none => rw [e] at k2; exact k2.elim
  | some d =>
    rw [e] at k2
    have k2 : Ens F fr w2 σ ((match d with
      | .bl true => mBind mc fun v => mLift (g' y v)
      | .bl false => mPure (.bl false)
      | _ => mNo) z2) _ := k2
    refine hn fr w2 σ H2 z2 fp2 v1 v2 x y d _ R2 (.of (r1.mono l2)) (.of r2) e fun v3 w3 H3 fp3 R3 l3 r3 => ?_
    have k3 := k2.up l3
    cases d with
    | bl bb =>
      cases r3
      refine ⟨bb, rfl, ?_⟩
      cases bb with
      | true =>
        rw [if_pos rfl]
        refine c2 fr w3 σ H3 z2 fp3 _ R3 (k3.cut.imp fun v w4 H4 z4 fp4 R4 l4 k4 u r4 => ?_)
        have k4 := k4.2.2
        cases e' : g' y v with
        | none => rw [e'] at k4; exact k4.elim
        | some d' =>
          rw [e'] at k4
          exact hn' fr w4 σ H4 z4 fp4 _ u y v d' Q R4 (.of ((r2.mono l3).mono l4)) r4 e' fun v w' H' fp' R' l' rv => k4 w' H' fp' R' l' v rv
      | false =>
        rw [if_neg Bool.false_ne_true]
        exact k3 w3 H3 fp3 R3 (World.le_refl w3) _ (.bl false)
    | _ => exact k2.elim
end
theorem F_K {X : Cx} (hX : F.C X) : X.K = F.K := (F.eqs X hX).2.2.1
def gAdd : D → D → Option D := fun a b => match gI (fun i j => .int (i + j)) a b with
  | some d => some d
  | none => match gStrCat a b with
    | some d => some d
    | none => match gTupCat a b with
      | some d => some d
      | none => match gTupCat0 a b with
        | some d => some d
        | none => gLstCat a b
def rAddU (K : PySem.W.Frag) : R2 := fun x y H Q => rI0 (fun i j => .int (i + j)) x y H Q ∨ (∃ i j, x = .str i ∧ y = .str j ∧ i.length + j.length ≤ sizeLine ∧ Q (.str (i ++ j)) H) ∨ rCatT K x y H Q ∨ rCatT0 K x y H Q ∨ rCat x y H Q
theorem opr_add {X : Cx} (hX : F.C X) : OpR X (binaryOp .Add) (rAddU F.K) := by
  have h := op_catT (X := X)
  have h0 := op_catT0 (X := X)
  rw [F_K hX] at h h0
  exact opr_or op_add (opr_or op_add_str (opr_or h (opr_or h0 op_cat)))
theorem opn_add : OpN F (rAddU F.K) gAdd := opn_or (opn_I0 fun _ _ _ _ => .int _) (opn_or opn_strCat (opn_or opn_tupCat (opn_or opn_tupCat0 opn_lstCat)))
def gSub : D → D → Option D := gI fun i j => .int (i - j)
def gMul : D → D → Option D := fun a b => match gIc cMul (fun i j => .int (i * j)) a b with
  | some d => some d
  | none => gRep a b
def gMod : D → D → Option D := gIc (fun _ j => decide (j ≠ 0)) fun i j => .int (i.fmod j)
def gFdiv : D → D → Option D := gIc cDiv fun i j => .int (i.fdiv j)
def gPow : D → D → Option D := gIc cPow fun i j => .int (i ^ j.toNat)
def gLt : D → D → Option D := gI fun i j => .bl (decide (i < j))
def gLe : D → D → Option D := gI fun i j => .bl (decide (i ≤ j))
def gGt : D → D → Option D := gI fun i j => .bl (decide (j < i))
def gGe : D → D → Option D := gI fun i j => .bl (decide (j ≤ i))
theorem se_add (ha : SE F a ma) (hb : SN F b mb) : SE F (.BinOp a .Add b pos) (mOp gAdd ma mb) := se_op (fun _ hX => opr_add hX) opn_add ha hb
theorem se_sub (ha : SE F a ma) (hb : SN F b mb) : SE F (.BinOp a .Sub b pos) (mOp gSub ma mb) := se_op (fun _ _ => op_sub) (opn_I0 fun _ _ _ _ => .int _) ha hb
theorem se_mul (ha : SE F a ma) (hb : SN F b mb) : SE F (.BinOp a .Mult b pos) (mOp gMul ma mb) := se_op (fun _ _ => opr_or op_mul op_rep) (opn_or (opn_I (fun _ _ h => by unfold cMul at h; have := of_decide_eq_true h; exact this) fun _ _ _ _ => .int _) opn_rep) ha hb
theorem se_mod (ha : SE F a ma) (hb : SN F b mb) : SE F (.BinOp a .Mod b pos) (mOp gMod ma mb) := se_op (fun _ _ => op_modN) (opn_I (fun _ _ h => of_decide_eq_true h) fun _ _ _ _ => .int _) ha hb
theorem se_fdiv (ha : SE F a ma) (hb : SN F b mb) : SE F (.BinOp a .FloorDiv b pos) (mOp gFdiv ma mb) := se_op (fun _ _ => op_fdivN) (opn_I (fun _ _ h => by unfold cDiv at h; have := of_decide_eq_true h; exact this) fun _ _ _ _ => .int _) ha hb
theorem se_pow (ha : SE F a ma) (hb : SN F b mb) : SE F (.BinOp a .Pow b pos) (mOp gPow ma mb) := se_op (fun _ _ => op_pow) (opn_I (fun _ _ h => by unfold cPow at h; have := of_decide_eq_true h; exact this) fun _ _ _ _ => .int _) ha hb
theorem hu_ok {X : Cx} (hX : F.C X) (hc : F.cal = true) : X.A.units + 64 < cLine := by
  have := (F.room X hX hc).un
  omega
theorem opr_eq {X : Cx} (hX : F.C X) (hc : F.cal = true) : OpR X (compareOp .Eq) (rEqD F.K) := by
  have h := op_eqD (hu_ok hX hc)
  rw [F_K hX] at h
  exact h
theorem opr_ne {X : Cx} (hX : F.C X) (hc : F.cal = true) : OpR X (compareOp .NotEq) (rNeD F.K) := by
  have h := op_neD (hu_ok hX hc)
  rw [F_K hX] at h
  exact h
theorem se_eq (ha : SE F a ma) (hb : SN F b mb) (hc : F.cal = true := by rfl) : SE F (.Compare a [.Eq] [b] pos) (mOp gEq ma mb) := se_cmp (fun _ hX => opr_eq hX hc) opn_eq ha hb (nomark _)
theorem se_ne (ha : SE F a ma) (hb : SN F b mb) (hc : F.cal = true := by rfl) : SE F (.Compare a [.NotEq] [b] pos) (mOp gNe ma mb) := se_cmp (fun _ hX => opr_ne hX hc) opn_ne ha hb (nomark _)
theorem se_eqP (i : Nat) {x : Str} {p : Pos} (hb : SN F b mb) (hc : F.cal = true := by rfl) (hN : F.N[i]? = some x := by rfl) (hv : Vis F.sc x := by first | exact Or.inl rfl | exact Or.inr (Or.inl rfl) | exact Or.inr (Or.inr rfl)) (hd : (x == ("__debug__" : Str)) = false := by decide) (hcd : (x == ("__classdict__" : Str)) = false := by decide) :
    SE F (.Compare (.Name x p) [.Eq] [b] pos) (mOpP gEq i mb) := se_cmpP i (fun _ hX => opr_eq hX hc) opn_eq hb (nomark _) hN hv hd hcd
theorem se_neP (i : Nat) {x : Str} {p : Pos} (hb : SN F b mb) (hc : F.cal = true := by rfl) (hN : F.N[i]? = some x := by rfl) (hv : Vis F.sc x := by first | exact Or.inl rfl | exact Or.inr (Or.inl rfl) | exact Or.inr (Or.inr rfl)) (hd : (x == ("__debug__" : Str)) = false := by decide) (hcd : (x == ("__classdict__" : Str)) = false := by decide) :
    SE F (.Compare (.Name x p) [.NotEq] [b] pos) (mOpP gNe i mb) := se_cmpP i (fun _ hX => opr_ne hX hc) opn_ne hb (nomark _) hN hv hd hcd
theorem se_lt (ha : SE F a ma) (hb : SN F b mb) : SE F (.Compare a [.Lt] [b] pos) (mOp gLt ma mb) := se_cmp (fun _ _ => op_lt) (opn_I0 fun _ _ _ _ => .bl _) ha hb (nomark _)
theorem se_le (ha : SE F a ma) (hb : SN F b mb) : SE F (.Compare a [.LtE] [b] pos) (mOp gLe ma mb) := se_cmp (fun _ _ => op_le) (opn_I0 fun _ _ _ _ => .bl _) ha hb (nomark _)
theorem se_gt (ha : SE F a ma) (hb : SN F b mb) : SE F (.Compare a [.Gt] [b] pos) (mOp gGt ma mb) := se_cmp (fun _ _ => op_gt) (opn_I0 fun _ _ _ _ => .bl _) ha hb (nomark _)
theorem se_ge (ha : SE F a ma) (hb : SN F b mb) : SE F (.Compare a [.GtE] [b] pos) (mOp gGe ma mb) := se_cmp (fun _ _ => op_ge) (opn_I0 fun _ _ _ _ => .bl _) ha hb (nomark _)
theorem se_is (ha : SE F a ma) (hb : SN F b mb) : SE F (.Compare a [.Is] [b] pos) (mOp (gIs id) ma mb) := se_cmp (fun _ _ => op_isN) opn_is ha hb (nomark _)
theorem se_isnot (ha : SE F a ma) (hb : SN F b mb) : SE F (.Compare a [.IsNot] [b] pos) (mOp (gIs not) ma mb) := se_cmp (fun _ _ => op_notN) opn_isnot ha hb (nomark _)
theorem se_in (ha : SE F a ma) (hb : SN F b mb) (hm : behindInMarks .In b = false := by with_unfolding_all rfl) : SE F (.Compare a [.In] [b] pos) (mOp (gIn id) ma mb) := se_cmp (fun X hX => by
  have h := op_in_seq (X := X)
  rw [F_K hX] at h
  exact h) opn_in ha hb hm
theorem se_notIn (ha : SE F a ma) (hb : SN F b mb) (hm : behindInMarks .NotIn b = false := by with_unfolding_all rfl) : SE F (.Compare a [.NotIn] [b] pos) (mOp (gIn not) ma mb) := se_cmp (fun X hX => by
  have h := op_notIn_seq (X := X)
  rw [F_K hX] at h
  exact h) opn_notIn ha hb hm
theorem se_sign (ha : SE F a ma) (hb : SN F b mb) (hm : behindInMarks .In b = false := by with_unfolding_all rfl) : SE F (.Compare a [.In] [b] pos) (mOp (gSign id) ma mb) := se_cmp (fun X hX => op_in_sign) opn_sign ha hb hm
theorem se_notSign (ha : SE F a ma) (hb : SN F b mb) (hm : behindInMarks .NotIn b = false := by with_unfolding_all rfl) : SE F (.Compare a [.NotIn] [b] pos) (mOp (gSign not) ma mb) := se_cmp (fun X hX => op_notIn_sign) opn_notSign ha hb hm
theorem se_lele (ha : SE F a ma) (hb : SE F b mb) (hc : SN F c mc) (hm : lastMarks [.LtE, .LtE] [b, c] = false := by with_unfolding_all rfl) : SE F (.Compare a [.LtE, .LtE] [b, c] pos) (mChain gLe gLe ma mb mc) :=
  se_chain (fun _ _ => op_le) (opn_I0 fun _ _ _ _ => .bl _) (fun _ _ => op_le) (opn_I0 fun _ _ _ _ => .bl _) ha hb hc hm
theorem se_lelt (ha : SE F a ma) (hb : SE F b mb) (hc : SN F c mc) (hm : lastMarks [.LtE, .Lt] [b, c] = false := by with_unfolding_all rfl) : SE F (.Compare a [.LtE, .Lt] [b, c] pos) (mChain gLe gLt ma mb mc) :=
  se_chain (fun _ _ => op_le) (opn_I0 fun _ _ _ _ => .bl _) (fun _ _ => op_lt) (opn_I0 fun _ _ _ _ => .bl _) ha hb hc hm
/-! ## subscripts -/
theorem ixr {X : Cx} (hX : F.C X) : IxR X (rIx F.K) := by
  have h := ix_seq (X := X)
  rw [F_K hX] at h
  exact h
theorem se_ix (ha : SE F a ma) (hb : SN F b mb) (hs : PlainIx b := by exact fun _ _ => rfl) : SE F (.Subscript a b pos) (mOp gIx ma mb) := by
  obtain ⟨ta, a1, a2⟩ := ha.ex
  obtain ⟨tb, b1, b2⟩ := hb.ex
  exact ⟨_, fun X hX => pe_ix (ixr hX) (a1 X hX) (b1 X hX) hs, ted_op opn_ix a2 b2⟩
theorem se_ixP (i : Nat) {x : Str} {p : Pos} (hb : SN F b mb) (hs : PlainIx b := by exact fun _ _ => rfl) (hN : F.N[i]? = some x := by rfl) (hv : Vis F.sc x := by first | exact Or.inl rfl | exact Or.inr (Or.inl rfl) | exact Or.inr (Or.inr rfl)) (hd : (x == ("__debug__" : Str)) = false := by decide) (hcd : (x == ("__classdict__" : Str)) = false := by decide) :
    SE F (.Subscript (.Name x p) b pos) (mOpP gIx i mb) := by
  obtain ⟨tb, b1, b2⟩ := hb.ex
  exact ⟨_, fun X hX => pe_ix (ixr hX) (pe_name hX i hN hv hd hcd) (b1 X hX) hs, ted_opP i opn_ix b2⟩
/-! ## unary minus, truth, and, or, not, if -/
def gNeg : D → Option D
  | .int i => some (.int (-i))
  | _ => none
theorem se_neg (ha : SE F a ma) : SE F (.UnaryOp .USub a pos) (mBind ma fun d => mLift (gNeg d)) := by
  obtain ⟨ta, a1, a2⟩ := ha.ex
  refine ⟨_, fun X hX => pe_un un_neg (a1 X hX), fun fr w σ H z fp Q R h => ?_⟩
  refine a2 fr w σ H z fp _ R (h.cut.imp fun x w1 H1 z1 fp1 R1 l1 k v1 r1 => ?_)
  have k := k.2.2
  cases x with
  | int i => cases r1; exact ⟨i, rfl, k w1 H1 fp1 R1 (World.le_refl w1) _ (.int _)⟩
  | _ => exact k.elim
def toB : D → Option Bool
  | .bl b => some b
  | _ => none
def mTru (m : Mi D) : Mi Bool := mBind m fun d => mLift (toB d)
theorem st_val (h : SE F e m) (he : ∀ env whole, isTrue e env whole = (do let v ← whole; standAt e.pos; holding [v] (truthy v)) := by intro _ _; rfl) : ST F e (mTru m) := by
  obtain ⟨te, h1, h2⟩ := h.ex
  refine ⟨_, fun X hX => pt_val (h1 X hX) (he X.env), fun fr w σ H z fp Q R q => ?_⟩
  refine h2 fr w σ H z fp _ R (q.cut.imp fun d w1 H1 z1 fp1 R1 l1 k v1 r1 => ?_)
  have k := k.2.2
  cases d with
  | bl b => cases r1; exact ⟨b, rfl, k w1 H1 fp1 R1 (World.le_refl w1)⟩
  | _ => exact k.elim
def mAnd (a b : Mi Bool) : Mi Bool := mBind a fun c => if c = true then b else mPure false
def mOr (a b : Mi Bool) : Mi Bool := mBind a fun c => if c = true then mPure true else b
def mNot (a : Mi Bool) : Mi Bool := mBind a fun c => mPure (!c)
section
variable {A B : Mi Bool} {rest : List Expr} {op : BoolOp}
theorem sw_one (h : ST F a A) : SW F (.BoolOp .And [a] pos) A := by
  obtain ⟨t, h1, h2⟩ := h.ex
  exact ⟨t, fun X hX => pw_and1 (h1 X hX), h2⟩
theorem sw_one' (h : ST F a A) : SW F (.BoolOp .Or [a] pos) A := by
  obtain ⟨t, h1, h2⟩ := h.ex
  exact ⟨t, fun X hX => pw_or1 (h1 X hX), h2⟩
theorem sw_and (h : ST F a A) (k : SW F (.BoolOp .And (b :: rest) pos) B) : SW F (.BoolOp .And (a :: b :: rest) pos) (mAnd A B) := by
  obtain ⟨t, h1, h2⟩ := h.ex
  obtain ⟨u, k1, k2⟩ := k.ex
  refine ⟨_, fun X hX => pw_and (h1 X hX) (k1 X hX), fun fr w σ H z fp Q R q => ?_⟩
  refine h2 fr w σ H z fp _ R (q.cut.imp fun c w1 H1 z1 fp1 R1 l1 k => ?_)
  have k := k.2.2
  cases c with
  | true => rw [if_pos rfl] at k ⊢; exact k2 fr w1 σ H1 z1 fp1 Q R1 k
  | false => rw [if_neg Bool.false_ne_true] at k ⊢; exact k w1 H1 fp1 R1 (World.le_refl w1)
theorem sw_or (h : ST F a A) (k : SW F (.BoolOp .Or (b :: rest) pos) B) : SW F (.BoolOp .Or (a :: b :: rest) pos) (mOr A B) := by
  obtain ⟨t, h1, h2⟩ := h.ex
  obtain ⟨u, k1, k2⟩ := k.ex
  refine ⟨_, fun X hX => pw_or (h1 X hX) (k1 X hX), fun fr w σ H z fp Q R q => ?_⟩
  refine h2 fr w σ H z fp _ R (q.cut.imp fun c w1 H1 z1 fp1 R1 l1 k => ?_)
  have k := k.2.2
  cases c with
  | true => rw [if_pos rfl] at k ⊢; exact k w1 H1 fp1 R1 (World.le_refl w1)
  | false => rw [if_neg Bool.false_ne_true] at k ⊢; exact k2 fr w1 σ H1 z1 fp1 Q R1 k
theorem SW.t (h : SW F e A) : ST F e A := by
  obtain ⟨t, h1, h2⟩ := h.ex
  exact ⟨t, fun X hX => (h1 X hX).pt, h2⟩
theorem st_not (h : ST F a A) : ST F (.UnaryOp .Not a pos) (mNot A) := by
  obtain ⟨t, h1, h2⟩ := h.ex
  refine ⟨_, fun X hX => pt_not (h1 X hX), fun fr w σ H z fp Q R q => ?_⟩
  exact h2 fr w σ H z fp _ R (q.cut.imp fun c w1 H1 z1 fp1 R1 l1 k => k.2.2 w1 H1 fp1 R1 (World.le_refl w1))
end
def mAndV (a b : Mi D) : Mi D := mBind a fun d => match d with
  | .bl true => b
  | .bl false => mPure (.bl false)
  | _ => mNo
def mOrV (a b : Mi D) : Mi D := mBind a fun d => match d with
  | .bl true => mPure (.bl true)
  | .bl false => b
  | _ => mNo
theorem se_one {op : BoolOp} (h : SE F a ma) : SE F (.BoolOp op [a] pos) ma := by
  obtain ⟨t, h1, h2⟩ := h.ex
  exact ⟨t, fun X hX => pe_one (h1 X hX), h2⟩
theorem se_and {rest : List Expr} (h : SE F a ma) (k : SE F (.BoolOp .And (b :: rest) pos) mb) : SE F (.BoolOp .And (a :: b :: rest) pos) (mAndV ma mb) := by
  obtain ⟨t, h1, h2⟩ := h.ex
  obtain ⟨u, k1, k2⟩ := k.ex
  refine ⟨_, fun X hX => pe_and (h1 X hX) (k1 X hX), fun fr w σ H z fp Q R q => ?_⟩
  refine h2 fr w σ H z fp _ R (q.cut.imp fun d w1 H1 z1 fp1 R1 l1 k v r => ?_)
  have k := k.2.2
  cases d with
  | bl c =>
    cases r
    refine ⟨c, rfl, ?_⟩
    cases c with
    | true => rw [if_pos rfl]; exact k2 fr w1 σ H1 z1 fp1 Q R1 k
    | false => rw [if_neg Bool.false_ne_true]; exact k w1 H1 fp1 R1 (World.le_refl w1) _ (.bl _)
  | _ => exact k.elim
theorem se_or {rest : List Expr} (h : SE F a ma) (k : SE F (.BoolOp .Or (b :: rest) pos) mb) : SE F (.BoolOp .Or (a :: b :: rest) pos) (mOrV ma mb) := by
  obtain ⟨t, h1, h2⟩ := h.ex
  obtain ⟨u, k1, k2⟩ := k.ex
  refine ⟨_, fun X hX => pe_or (h1 X hX) (k1 X hX), fun fr w σ H z fp Q R q => ?_⟩
  refine h2 fr w σ H z fp _ R (q.cut.imp fun d w1 H1 z1 fp1 R1 l1 k v r => ?_)
  have k := k.2.2
  cases d with
  | bl c =>
    cases r
    refine ⟨c, rfl, ?_⟩
    cases c with
    | true => rw [if_pos rfl]; exact k w1 H1 fp1 R1 (World.le_refl w1) _ (.bl _)
    | false => rw [if_neg Bool.false_ne_true]; exact k2 fr w1 σ H1 z1 fp1 Q R1 k
  | _ => exact k.elim
def mNotV (a : Mi D) : Mi D := mBind a fun d => match d with
  | .bl c => mPure (.bl (!c))
  | _ => mNo
theorem se_not (h : SE F a ma) : SE F (.UnaryOp .Not a pos) (mNotV ma) := by
  obtain ⟨t, h1, h2⟩ := h.ex
  refine ⟨_, fun X hX => pe_not (h1 X hX), fun fr w σ H z fp Q R q => ?_⟩
  refine h2 fr w σ H z fp _ R (q.cut.imp fun d w1 H1 z1 fp1 R1 l1 k v r => ?_)
  have k := k.2.2
  cases d with
  | bl c => cases r; exact ⟨c, rfl, k w1 H1 fp1 R1 (World.le_refl w1) _ (.bl _)⟩
  | _ => exact k.elim
def mIte {α : Type} (t : Mi Bool) (a b : Mi α) : Mi α := mBind t fun c => if c = true then a else b
theorem se_ite {A : Mi Bool} (h : ST F c A) (ha : SE F a ma) (hb : SE F b mb) : SE F (.IfExp c a b pos) (mIte A ma mb) := by
  obtain ⟨t, h1, h2⟩ := h.ex
  obtain ⟨ta, a1, a2⟩ := ha.ex
  obtain ⟨tb, b1, b2⟩ := hb.ex
  refine ⟨_, fun X hX => pe_ifExp (h1 X hX) (a1 X hX) (b1 X hX), fun fr w σ H z fp Q R q => ?_⟩
  refine h2 fr w σ H z fp _ R (q.cut.imp fun d w1 H1 z1 fp1 R1 l1 k => ?_)
  have k := k.2.2
  cases d with
  | true => rw [if_pos rfl] at k ⊢; exact a2 fr w1 σ H1 z1 fp1 Q R1 k
  | false => rw [if_neg Bool.false_ne_true] at k ⊢; exact b2 fr w1 σ H1 z1 fp1 Q R1 k
/-! ## arguments, displays -/
def mCons (m : Mi D) (ms : Mi (List D)) : Mi (List D) := mBind m fun d => mBind ms fun ds => mPure (d :: ds)
theorem sa_nil : SA F [] (mPure []) := ⟨_, fun _ _ => pa_nil, fun fr w σ H z fp Q R q => q w H fp R (World.le_refl w) [] .nil⟩
theorem sa_cons {es : List Expr} {ms : Mi (List D)} (h : SE F e m) (k : SA F es ms) (hs : ∀ env, starEach (e :: es) env = (false, eval e env) :: starEach es env := by intro _; rfl) : SA F (e :: es) (mCons m ms) := by
  obtain ⟨t, h1, h2⟩ := h.ex
  obtain ⟨u, k1, k2⟩ := k.ex
  refine ⟨_, fun X hX => pa_cons (h1 X hX) (k1 X hX) (hs X.env), fun fr w σ H z fp Q R q => ?_⟩
  refine h2 fr w σ H z fp _ R (q.cut.imp fun d w1 H1 z1 fp1 R1 l1 k v r => ?_)
  refine k2 fr w1 σ H1 z1 fp1 _ R1 (k.2.2.cut.imp fun ds w2 H2 z2 fp2 R2 l2 k vs rs => ?_)
  exact k.2.2 w2 H2 fp2 R2 (World.le_refl w2) _ (.cons (r.mono l2) rs)
def mTup (ms : Mi (List D)) : Mi D := mBind ms fun ds => if ds.length ≤ sizeLine then mPure (.tup ds) else mNo
theorem se_tup {es : List Expr} {ms : Mi (List D)} {x1} (h : SA F es ms) : SE F (.Tuple es x1 pos) (mTup ms) := by
  obtain ⟨t, h1, h2⟩ := h.ex
  refine ⟨_, fun X hX => pe_tup (h1 X hX), fun fr w σ H z fp Q R q => ?_⟩
  refine h2 fr w σ H z fp _ R (q.cut.imp fun ds w1 H1 z1 fp1 R1 l1 k vs rs => ?_)
  have k := k.2.2
  split at k
  · rename_i hl
    refine ⟨by rw [rs.length]; exact hl, fun p hp => ?_⟩
    obtain ⟨b1, b2, b3⟩ := R1.putT hp rs
    exact k _ _ fp1 b1 b2 _ b3
  · exact k.elim
end
end M
namespace M
open PySem L2

/-! ## new lists and dicts -/
section
variable {K : PySem.W.Frag} {fr : Fr} {w w' : World} {σ : St} {H : Hp} {z : Z} {fp : Nat → List Addr} {s : List SObj} {e : List B} {b : B} {o : Option V} {v : V}
theorem slot_app_left {i : Nat} (h : i < σ.length) : slot (σ ++ [o]) i = slot σ i := by
  unfold slot; rw [List.getElem?_append_left h]
theorem slot_app_last : slot (σ ++ [o]) σ.length = o := by
  unfold slot; rw [List.getElem?_append_right (Nat.le_refl _), Nat.sub_self]; rfl
theorem slot_out {i : Nat} (h : σ.length ≤ i) : slot σ i = none := by
  unfold slot; rw [List.getElem?_eq_none h]; rfl
/-- the last slot is dropped -/
theorem Rel.pop (R : Rel K fr w (σ ++ [o]) H ⟨e ++ [b], s⟩ fp) : Rel K fr w σ H ⟨e, s⟩ (fun j => if j < e.length then fp j else []) := by
  have hl : σ.length = e.length := by have := R.len; simpa using this
  refine R.reslot hl fun i => ?_
  by_cases hi : i < e.length
  · refine .inl ⟨by rw [List.getElem?_append_left hi], (slot_app_left (by omega)).symm, by rw [if_pos hi]⟩
  · refine .inr ⟨fun b h => ?_, by rw [if_neg hi]⟩
    have h : e[i]? = some b := h
    rw [List.getElem?_eq_none (by omega)] at h
    cases h
/-- a new thing becomes a known value -/
theorem Rel.settle {d : D} (R : Rel K fr w (σ ++ [some v]) H ⟨e ++ [b], s⟩ fp) (h : fzB b = some d) : ∃ w' fp', w.le w' ∧ Rel K fr w' σ H ⟨e, s⟩ fp' ∧ Rep K w' v d := by
  have hl : σ.length = e.length := by have := R.len; simpa using this
  obtain ⟨w', fp', l, R', v', h1, h2⟩ := R.freeze (i := e.length) (b := b) (by rw [List.getElem?_append_right (Nat.le_refl _), Nat.sub_self]; rfl) h
  rw [← hl, slot_app_last] at h1
  cases h1
  refine ⟨w', fun j => if j < e.length then fp' j else [], l, ?_, h2⟩
  have q : (e ++ [b]).set e.length (.v d) = e ++ [.v d] := by rw [List.set_append_right _ _ (Nat.le_refl _), Nat.sub_self]; rfl
  have R' : Rel K fr w' (σ ++ [some v]) H ⟨(e ++ [b]).set e.length (.v d), s⟩ fp' := R'
  rw [q] at R'
  exact R'.pop
/-- a new thing is given to the slot i -/
theorem Rel.give (R : Rel K fr w (σ ++ [some v]) H ⟨e ++ [b], s⟩ fp) (i : Nat) : Rel K fr w (σ.set i (some v)) H ⟨e.set i b, s⟩ (fun j => if j = i ∧ i < e.length then fp e.length else if j < e.length then fp j else []) := by
  have hl : σ.length = e.length := by have := R.len; simpa using this
  by_cases hi : i < e.length
  · have own : ∀ j a, a ∈ (if j = i ∧ i < e.length then fp e.length else if j < e.length then fp j else []) → ∃ k, a ∈ fp k ∧ (j = i → k = e.length) ∧ (j ≠ i → k = j ∧ j < e.length) := fun j a m => by
      split at m
      · rename_i hj; exact ⟨_, m, fun _ => rfl, fun h => absurd hj.1 h⟩
      · rename_i hj
        have hj : j ≠ i := fun h => hj ⟨h, hi⟩
        split at m
        · rename_i h2; exact ⟨j, m, fun h => absurd h hj, fun _ => ⟨rfl, h2⟩⟩
        · cases m
    refine ⟨R.sub, R.ge, R.frame, R.dom, R.fresh, by rw [List.length_set, List.length_set]; exact hl, fun j b' q => ?_, fun j q => ?_, fun j a m => ?_, fun j => ?_, fun j k a m m' => ?_, R.shl, R.sh, R.shd, R.sh0⟩
    · have q : (e.set i b)[j]? = some b' := q
      by_cases hj : j = i
      · subst hj
        rw [List.getElem?_set_self hi] at q
        cases q
        rw [if_pos ⟨rfl, hi⟩, slot_set_eq (by omega)]
        have := R.slots e.length b (by rw [List.getElem?_append_right (Nat.le_refl _), Nat.sub_self]; rfl)
        rw [← hl, slot_app_last] at this
        rw [← hl]
        exact this
      · rw [List.getElem?_set_ne (Ne.symm hj)] at q
        have hjl : j < e.length := (List.getElem?_eq_some_iff.mp q).1
        rw [if_neg fun h => hj h.1, if_pos hjl, slot_set_ne (Ne.symm hj)]
        have := R.slots j b' (by show (e ++ [b])[j]? = _; rw [List.getElem?_append_left hjl]; exact q)
        rw [slot_app_left (by omega)] at this
        exact this
    · have q : (e.set i b)[j]? = none := q
      have hjl : e.length ≤ j := by have := List.getElem?_eq_none_iff.mp q; rwa [List.length_set] at this
      rw [if_neg fun h => by omega, if_neg (by omega)]
    · obtain ⟨k, h, _⟩ := own j a m
      exact R.own k a h
    · by_cases hj : j = i
      · rw [if_pos ⟨hj, hi⟩]; exact R.nd _
      · rw [if_neg fun h => hj h.1]
        split
        · exact R.nd _
        · exact List.nodup_nil
    · obtain ⟨x, h1, h2, h3⟩ := own j a m
      obtain ⟨y, k1, k2, k3⟩ := own k a m'
      have exy := R.dj x y a h1 k1
      by_cases hj : j = i
      · by_cases hk : k = i
        · rw [hj, hk]
        · have a1 := h2 hj
          have a2 := k3 hk
          omega
      · by_cases hk : k = i
        · have a1 := h3 hj
          have a2 := k2 hk
          omega
        · have a1 := h3 hj
          have a2 := k3 hk
          omega
  · have e1 : e.set i b = e := List.set_eq_of_length_le (by omega)
    have e2 : σ.set i (some v) = σ := List.set_eq_of_length_le (by omega)
    rw [e1, e2]
    have := R.pop
    have ef : (fun j => if j = i ∧ i < e.length then fp e.length else if j < e.length then fp j else []) = (fun j => if j < e.length then fp j else []) := by
      funext j
      rw [if_neg fun h => hi h.2]
    rw [ef]
    exact this
/-- a new list, owned by nobody else: it stands behind the slots -/
theorem Rel.newBlob (R : Rel K fr w σ H z fp) {p : Addr} {o : HO} (h : H p = none) (hs : SlotR K w (upd H p o) (some (.ref p)) b [p]) :
    Rel K fr w (σ ++ [some (.ref p)]) (upd H p o) ⟨z.e ++ [b], z.s⟩ (fun j => if j = z.e.length then [p] else fp j) := by
  have h0 := R.new0 h
  have hi := R.newIn h
  have ne : ∀ {a : Addr} {u : HO}, H a = some u → a ≠ p := fun e => ne_of_none e h
  have hl := R.len
  refine ⟨fun a u e => ?_, R.ge, fun a u e n => ?_, fun a u e => ?_, R.fresh, by simp [hl], fun j b' e => ?_, fun j e => ?_, fun j a m => ?_, fun j => ?_, fun j k a m m' => ?_, R.shl, fun n l u e e' => ?_, R.shd, R.sh0⟩
  · have q := R.sub a u e
    rw [upd_ne (ne q)]; exact q
  · have q := R.frame a u e n
    rw [upd_ne (ne q)]; exact q
  · obtain ⟨u', q⟩ := R.dom a u e
    exact ⟨u', by rw [upd_ne (ne q)]; exact q⟩
  · have e : (z.e ++ [b])[j]? = some b' := e
    by_cases hj : j = z.e.length
    · subst hj
      rw [List.getElem?_append_right (Nat.le_refl _), Nat.sub_self] at e
      cases e
      rw [if_pos rfl, ← hl, slot_app_last]
      exact hs
    · have hjl : j < z.e.length := by
        have := (List.getElem?_eq_some_iff.mp e).1
        simp at this
        omega
      rw [List.getElem?_append_left hjl] at e
      rw [if_neg hj, slot_app_left (by omega)]
      exact SlotR.mono (World.le_refl w) (fun a m u q => by rw [upd_ne (ne q)]; exact q) (R.slots j b' e)
  · have e : (z.e ++ [b])[j]? = none := e
    have hjl := List.getElem?_eq_none_iff.mp e
    simp at hjl
    rw [if_neg (by omega)]
    exact R.away j (List.getElem?_eq_none (by omega))
  · by_cases hj : j = z.e.length
    · rw [if_pos hj] at m
      simp at m
      subst m
      refine ⟨h0, fun m => ?_, .inl hi⟩
      obtain ⟨u, q⟩ := R.sh_there m
      rw [h] at q; cases q
    · rw [if_neg hj] at m; exact R.own j a m
  · by_cases hj : j = z.e.length
    · rw [if_pos hj]; simp
    · rw [if_neg hj]; exact R.nd j
  · by_cases hj : j = z.e.length <;> by_cases hk : k = z.e.length
    · rw [hj, hk]
    · rw [if_pos hj] at m
      rw [if_neg hk] at m'
      simp at m
      subst m
      obtain ⟨u, q⟩ := R.slot_there m'
      rw [h] at q; cases q
    · rw [if_neg hj] at m
      rw [if_pos hk] at m'
      simp at m'
      subst m'
      obtain ⟨u, q⟩ := R.slot_there m
      rw [h] at q; cases q
    · rw [if_neg hj] at m
      rw [if_neg hk] at m'
      exact R.dj j k a m m'
  · refine (R.sh n l u e e').mono (World.le_refl w) fun a m u' q => ?_
    rw [upd_ne (ne q)]; exact q
theorem Rel.newList (R : Rel K fr w σ H z fp) {p : Addr} {vs : List V} {ds : List D} (h : H p = none) (r : RepL K w vs ds) :
    Rel K fr w (σ ++ [some (.ref p)]) (upd H p (.lst vs)) ⟨z.e ++ [.ml ds], z.s⟩ (fun j => if j = z.e.length then [p] else fp j) :=
  R.newBlob h ⟨p, vs, rfl, rfl, upd_same, r⟩
theorem Rel.newDict (R : Rel K fr w σ H z fp) {p : Addr} {kvs : List (Key × V)} {ds : List D} (h : H p = none) (r : RepL K w (kvs.map (·.2)) ds) :
    Rel K fr w (σ ++ [some (.ref p)]) (upd H p (.dK kvs)) ⟨z.e ++ [.md (kvs.map (·.1)) ds], z.s⟩ (fun j => if j = z.e.length then [p] else fp j) :=
  R.newBlob h ⟨p, kvs, rfl, rfl, upd_same, rfl, r⟩
/-- the slot i's own thing is written to -/
theorem Rel.write (R : Rel K fr w σ H z fp) {i : Nat} {a : Addr} {u : HO} {b' : B} (ha : a ∈ fp i) (hi : i < z.e.length) (hs : SlotR K w (upd H a u) (slot σ i) b' (fp i)) : Rel K fr w σ (upd H a u) ⟨z.e.set i b', z.s⟩ fp := by
  obtain ⟨a1, a2, a3⟩ := R.own i a ha
  obtain ⟨u0, hu0⟩ := R.slot_there ha
  have ne0 : ∀ {c : Addr} {x : HO}, w.H0 c = some x → c ≠ a := fun e h => by subst h; rw [a1] at e; cases e
  refine ⟨fun c x e => by rw [upd_ne (ne0 e)]; exact R.sub c x e, R.ge, fun c x e n => ?_, fun c x e => ?_, R.fresh, by rw [List.length_set]; exact R.len, fun j b e => ?_, fun j e => ?_, R.own, R.nd, R.dj, R.shl, fun n l x e e' => ?_, R.shd, R.sh0⟩
  · have h : c ≠ a := fun h => by
      subst h
      rcases a3 with q | q
      · rw [e] at q; cases q
      · exact n q
    rw [upd_ne h]; exact R.frame c x e n
  · by_cases h : c = a
    · subst h; exact ⟨u, upd_same⟩
    · obtain ⟨x', q⟩ := R.dom c x e
      exact ⟨x', by rw [upd_ne h]; exact q⟩
  · have e : (z.e.set i b')[j]? = some b := e
    by_cases hj : j = i
    · subst hj
      rw [List.getElem?_set_self hi] at e
      cases e
      exact hs
    · rw [List.getElem?_set_ne (Ne.symm hj)] at e
      refine SlotR.mono (World.le_refl w) (fun c m x q => ?_) (R.slots j b e)
      rw [upd_ne fun h => hj (R.dj j i c m (by rw [h]; exact ha))]
      exact q
  · have e : (z.e.set i b')[j]? = none := e
    have hjl : z.e.length ≤ j := by have := List.getElem?_eq_none_iff.mp e; rwa [List.length_set] at this
    exact R.away j (List.getElem?_eq_none hjl)
  · refine (R.sh n l x e e').mono (World.le_refl w) fun c m y q => ?_
    rw [upd_ne fun h => a2 (List.mem_flatten.mpr ⟨l, List.mem_of_getElem? e, by rw [← h]; exact m⟩)]
    exact q
/-- a known value is stored in the slot i -/
theorem Rel.store (R : Rel K fr w σ H z fp) (i : Nat) {d : D} (r : Rep K w v d) : Rel K fr w (σ.set i (some v)) H ⟨z.e.set i (.v d), z.s⟩ (fun j => if j = i then [] else fp j) := by
  refine R.reslot (by rw [List.length_set, List.length_set]; exact R.len) fun j => ?_
  by_cases hj : j = i
  · subst hj
    refine .inr ⟨fun b e => ?_, by rw [if_pos rfl]⟩
    have hjl : j < z.e.length := by
      have := (List.getElem?_eq_some_iff.mp e).1
      rwa [List.length_set] at this
    rw [List.getElem?_set_self hjl] at e
    cases e
    exact ⟨rfl, v, by rw [slot_set_eq (by rw [R.len]; exact hjl)], r⟩
  · exact .inl ⟨List.getElem?_set_ne (Ne.symm hj), slot_set_ne (Ne.symm hj), by rw [if_neg hj]⟩
end

section
variable {F : Fam} {e a b c : Expr} {pos : Pos} {m ma mb mc : Mi D}
def mSettle (m : Mi B) : Mi D := mBind m fun b => mLift (fzB b)
theorem ted_settle {te : TE} {m : Mi B} (h : TBD F te m) : TED F te (mSettle m) := fun fr w σ H z fp Q R q => by
  refine h fr w σ H z fp Q R ?_
  unfold mSettle mBind at q
  cases e1 : m z with
  | ok b z' =>
    rw [e1] at q
    intro v w' H' fp' R' l
    have q : Ens F fr w σ (mLift (fzB b) z') _ := q
    cases e2 : fzB b with
    | none => rw [e2] at q; exact q.elim
    | some d =>
      rw [e2] at q
      obtain ⟨w2, fp2, l2, R2, r2⟩ := R'.settle e2
      exact q w2 H' fp2 R2 (World.le_trans l l2) v r2
  | ex c z' => rw [e1] at q; exact q
  | no => rw [e1] at q; exact q
theorem SB.se {m : Mi B} (h : SB F e m) : SE F e (mSettle m) := by
  obtain ⟨te, h1, h2⟩ := h.ex
  exact ⟨te, h1, ted_settle h2⟩
def mLst (ms : Mi (List D)) : Mi B := mBind ms fun ds => if ds.length ≤ sizeLine then mPure (.ml ds) else mNo
/-- from arguments to a new thing -/
theorem tbd_of {α : Type} {fr : Fr} {w : World} {σ : St} {Q : VK} {m : Mi α} {k : α → Mi B} {z : Z} (h : EnsB F fr w σ (mBind m k z) Q) : Ens F fr w σ (m z) (fun a w' H' z' fp' => Rel F.K fr w' σ H' z' fp' ∧ w.le w' ∧ EnsB F fr w' σ (k a z') Q) := by
  unfold mBind at h
  cases e : m z with
  | ok a z' =>
    rw [e] at h
    intro w' H' fp' R l
    refine ⟨R, l, ?_⟩
    have h : EnsB F fr w σ (k a z') Q := h
    cases e2 : k a z' with
    | ok b z2 => rw [e2] at h; exact fun v w2 H2 fp2 R2 l2 => h v w2 H2 fp2 R2 (World.le_trans l l2)
    | ex c z2 => rw [e2] at h; exact fun w2 H2 fp2 R2 l2 => h w2 H2 fp2 R2 (World.le_trans l l2)
    | no => rw [e2] at h; exact h
  | ex c z' => rw [e] at h; exact h
  | no => rw [e] at h; exact h
theorem sb_lst {es : List Expr} {ms : Mi (List D)} (h : SA F es ms) : SB F (.List es pos) (mLst ms) := by
  obtain ⟨t, h1, h2⟩ := h.ex
  refine ⟨_, fun X hX => pe_lst (h1 X hX), fun fr w σ H z fp Q R q => ?_⟩
  refine h2 fr w σ H z fp _ R ((tbd_of q).imp fun ds w1 H1 z1 fp1 R1 l1 k vs rs => ?_)
  have k := k.2.2
  split at k
  · rename_i hl
    refine ⟨by rw [rs.length]; exact hl, fun p hp => ?_⟩
    exact k _ _ _ _ (R1.newList hp rs) (World.le_refl _)
  · exact k.elim

/-! ## statements -/
theorem EnsS.up {fr : Fr} {w w' : World} {r : R Fl} {E : Ends} (l : w.le w') (h : EnsS F fr w r E) : EnsS F fr w' r E := by
  cases r with
  | ok f z' =>
    cases f with
    | nx => exact fun σ' w'' H' fp' R l' => h σ' w'' H' fp' R (World.le_trans l l')
    | bk => exact fun σ' w'' H' fp' R l' => h σ' w'' H' fp' R (World.le_trans l l')
    | ct => exact fun σ' w'' H' fp' R l' => h σ' w'' H' fp' R (World.le_trans l l')
    | rt d => exact fun σ' v w'' H' fp' R l' => h σ' v w'' H' fp' R (World.le_trans l l')
  | ex c z' => exact fun σ' w'' H' fp' R l' => h σ' w'' H' fp' R (World.le_trans l l')
  | no => exact h
theorem EnsS.cut {α : Type} {fr : Fr} {w : World} {σ : St} {E : Ends} {m : Mi α} {k : α → Mi Fl} {z : Z} (h : EnsS F fr w (mBind m k z) E) : Ens F fr w σ (m z) (fun a w' H' z' fp' => Rel F.K fr w' σ H' z' fp' ∧ w.le w' ∧ EnsS F fr w' (k a z') E) := by
  unfold mBind at h
  cases e : m z with
  | ok a z' => rw [e] at h; exact fun w' H' fp' R l => ⟨R, l, h.up l⟩
  | ex c z' => rw [e] at h; exact fun w' H' fp' R l => h σ w' H' fp' R l
  | no => rw [e] at h; exact h
def mFl (f : Fl) : Mi Fl := fun z => .ok f z
def mSeq (m k : Mi Fl) : Mi Fl := fun z => match m z with
  | .ok .nx z' => k z'
  | r => r
theorem sss_nil : SSs F [] (mFl .nx) := ⟨_, fun _ _ => pss_nil, fun fr w σ H z fp E R q => q σ w H fp R (World.le_refl w)⟩
theorem sss_one {st : Stmt} {m : Mi Fl} (h : SS F st m) : SSs F [st] m := by
  obtain ⟨t, h1, h2⟩ := h.ex
  exact ⟨t, fun X hX => pss_one (h1 X hX), h2⟩
theorem tsd_seq {t u : TS} {m k : Mi Fl} (h : TSD F t m) (h' : TSD F u k) : TSD F (tSeq t u) (mSeq m k) := fun fr w σ H z fp E R q => by
  refine h fr w σ H z fp _ R ?_
  unfold mSeq at q
  cases e : m z with
  | ok f z' =>
    rw [e] at q
    cases f with
    | nx => exact fun σ' w' H' fp' R' l => h' fr w' σ' H' z' fp' E R' (EnsS.up l q)
    | bk => exact q
    | ct => exact q
    | rt d => exact q
  | ex c z' => rw [e] at q; exact q
  | no => rw [e] at q; exact q
theorem sss_cons {st : Stmt} {rest : List Stmt} {m k : Mi Fl} (h : SS F st m) (h' : SSs F rest k) : SSs F (st :: rest) (mSeq m k) := by
  obtain ⟨t, h1, h2⟩ := h.ex
  obtain ⟨u, k1, k2⟩ := h'.ex
  exact ⟨_, fun X hX => pss_cons (h1 X hX) (k1 X hX), tsd_seq h2 k2⟩
theorem ss_pass : SS F (.Pass pos) (mFl .nx) := ⟨_, fun _ _ => ps_pass, fun fr w σ H z fp E R q => q σ w H fp R (World.le_refl w)⟩
theorem ss_break : SS F (.Break pos) (mFl .bk) := ⟨_, fun _ _ => ps_break, fun fr w σ H z fp E R q => q σ w H fp R (World.le_refl w)⟩
theorem ss_cont : SS F (.Continue pos) (mFl .ct) := ⟨_, fun _ _ => ps_continue, fun fr w σ H z fp E R q => q σ w H fp R (World.le_refl w)⟩
def mRet (m : Mi D) : Mi Fl := mBind m fun d => mFl (.rt d)
theorem ss_ret (h : SE F e m) : SS F (.Return (some e) pos) (mRet m) := by
  obtain ⟨t, h1, h2⟩ := h.ex
  refine ⟨_, fun X hX => ps_ret (h1 X hX), fun fr w σ H z fp E R q => ?_⟩
  exact h2 fr w σ H z fp _ R (q.cut.imp fun d w1 H1 z1 fp1 R1 l1 k v r => k.2.2 σ v w1 H1 fp1 R1 (World.le_refl w1) r)
theorem ss_retN : SS F (.Return none pos) (mFl (.rt .non)) := ⟨_, fun _ _ => ps_retN, fun fr w σ H z fp E R q => q σ .non w H fp R (World.le_refl w) .non⟩
def mDrop (m : Mi D) : Mi Fl := mBind m fun _ => mFl .nx
theorem ss_expr (h : SE F e m) (hs : ∀ env, swapsWith e none pos.line env = pure false := by intro _; rfl) : SS F (.Expr e pos) (mDrop m) := by
  obtain ⟨t, h1, h2⟩ := h.ex
  refine ⟨_, fun X hX => ps_expr (h1 X hX) (hs X.env), fun fr w σ H z fp E R q => ?_⟩
  exact h2 fr w σ H z fp _ R (q.cut.imp fun d w1 H1 z1 fp1 R1 l1 k v r => k.2.2 σ w1 H1 fp1 R1 (World.le_refl w1))
theorem ss_if {A : Mi Bool} {xs ys : List Stmt} {mx my : Mi Fl} (h : ST F c A) (hx : SSs F xs mx) (hy : SSs F ys my) : SS F (.If c xs ys pos) (mIte A mx my) := by
  obtain ⟨t, h1, h2⟩ := h.ex
  obtain ⟨ta, a1, a2⟩ := hx.ex
  obtain ⟨tb, b1, b2⟩ := hy.ex
  refine ⟨_, fun X hX => ps_if (h1 X hX) (a1 X hX) (b1 X hX), fun fr w σ H z fp E R q => ?_⟩
  refine h2 fr w σ H z fp _ R (q.cut.imp fun d w1 H1 z1 fp1 R1 l1 k => ?_)
  have k := k.2.2
  cases d with
  | true => rw [if_pos rfl] at k ⊢; exact a2 fr w1 σ H1 z1 fp1 E R1 k
  | false => rw [if_neg Bool.false_ne_true] at k ⊢; exact b2 fr w1 σ H1 z1 fp1 E R1 k
theorem loc_ok {X : Cx} (hX : F.C X) {x : Str} (h : Loc F.sc x) : Loc X.env.scope x := by
  rw [(F.eqs X hX).2.2.2.2.2.2.1]; exact h
theorem fn_ok {X : Cx} (hX : F.C X) {x : Str} (h : F.fn x = true ∨ F.sc.names.lookup x = some .local) : X.fn x = true ∨ X.env.scope.names.lookup x = some .local := by
  obtain ⟨_, _, _, _, _, _, e2, e3⟩ := F.eqs X hX
  rw [e2, e3]; exact h
/-- targets -/
def TGD (F : Fam) (g : TG) (t : D → Z → Option Z) : Prop := ∀ fr w σ H z z' fp v d (Q : St → Hp → Prop), Rel F.K fr w σ H z fp → Rep F.K w v d → t d z = some z' →
  (∀ σ' fp', Rel F.K fr w σ' H z' fp' → Q σ' H) → g v σ H Q
structure SG (F : Fam) (tg : Expr) (t : D → Z → Option Z) : Prop where
  ex : ∃ g, (∀ X, F.C X → PG X tg g) ∧ TGD F g t
def tgName (i : Nat) : D → Z → Option Z := fun d z => some ⟨z.e.set i (.v d), z.s⟩
theorem tgd_name (i : Nat) : TGD F (gName i) (tgName i) := fun fr w σ H z z' fp v d Q R r e q => by
  cases e
  exact q _ _ (R.store i r)
theorem sg_name (i : Nat) {x : Str} {p : Pos} (hN : F.N[i]? = some x := by rfl) (hl : Loc F.sc x := by first | exact Or.inl rfl | exact Or.inr rfl) (hf : F.fn x = true ∨ F.sc.names.lookup x = some .local := by first | exact .inl rfl | exact .inr rfl) : SG F (.Name x p) (tgName i) :=
  ⟨_, fun X hX => pg_name (by rw [(F.eqs X hX).2.2.2.2.2.1]; exact F.nd) (by rw [(F.eqs X hX).2.2.2.2.2.1]; exact hN) (loc_ok hX hl) (fn_ok hX hf), tgd_name i⟩
structure SGs (F : Fam) (ts : List Expr) (t : List D → Z → Option Z) : Prop where
  ex : ∃ g, (∀ X, F.C X → PGs X ts g) ∧ ∀ fr w σ H z z' fp vs ds (Q : St → Hp → Prop), Rel F.K fr w σ H z fp → RepL F.K w vs ds → t ds z = some z' →
    (∀ σ' fp', Rel F.K fr w σ' H z' fp' → Q σ' H) → g vs σ H Q
def tgsNil : List D → Z → Option Z
  | [], z => some z
  | _, _ => none
def tgsCons (t : D → Z → Option Z) (u : List D → Z → Option Z) : List D → Z → Option Z
  | d :: ds, z => (t d z).bind (u ds)
  | [], _ => none
theorem sgs_nil : SGs F [] tgsNil := ⟨_, fun _ _ => pgs_nil, fun fr w σ H z z' fp vs ds Q R r e q => by
  cases r with
  | nil => cases e; exact ⟨rfl, q σ fp R⟩
  | cons _ _ => cases e⟩
theorem sgs_cons {es : List Expr} {t : D → Z → Option Z} {u : List D → Z → Option Z} (h : SG F e t) (k : SGs F es u) (hs : ∀ env, (assignEach (e :: es) env).map (·.2) = assign e env :: (assignEach es env).map (·.2) := by intro _; rfl) : SGs F (e :: es) (tgsCons t u) := by
  obtain ⟨g, h1, h2⟩ := h.ex
  obtain ⟨gs, k1, k2⟩ := k.ex
  refine ⟨_, fun X hX => pgs_cons (h1 X hX) (k1 X hX) (hs X.env), fun fr w σ H z z' fp vs ds Q R r eq q => ?_⟩
  cases r with
  | nil => cases eq
  | cons r1 r2 =>
    rename_i v vs d ds
    refine ⟨v, vs, rfl, ?_⟩
    have eq : (t d z).bind (u ds) = some z' := eq
    cases e1 : t d z with
    | none => rw [e1] at eq; cases eq
    | some z1 =>
      rw [e1] at eq
      exact h2 fr w σ H z z1 fp v d _ R r1 e1 fun σ' fp' R' => k2 fr w σ' H z1 z' fp' vs ds Q R' r2 eq q
def tgTup (n : Nat) (t : List D → Z → Option Z) : D → Z → Option Z
  | .tup ds, z => if ds.length = n then t ds z else none
  | _, _ => none
theorem sg_tup {es : List Expr} {k : Nat} {t : List D → Z → Option Z} {n : Nat} (h : SGs F es t) (hc : F.cal = true := by rfl) (hn : ∀ env, (assignEach es env).length = n := by intro _; rfl) (hst : ∀ env, (assignEach es env).findIdx? (·.1) = none := by intro _; rfl) : SG F (.Tuple es k pos) (tgTup n t) := by
  obtain ⟨g, h1, h2⟩ := h.ex
  refine ⟨gTup F.K n g, fun X hX => by have := pg_tup (k := k) (pos := pos) (F.calm X hX hc) (h1 X hX) (hn X.env) (hst X.env); rw [F_K hX] at this; exact this, fun fr w σ H z z' fp v d Q R r eq q => ?_⟩
  cases d with
  | tup ds =>
    cases r with
    | tup s r =>
      rename_i a vs
      have eq : (if ds.length = n then t ds z else none) = some z' := eq
      by_cases hl : ds.length = n
      · rw [if_pos hl] at eq
        exact ⟨a, vs, rfl, R.sqT s, by rw [r.length]; exact hl, h2 fr w σ H z z' fp vs ds Q R r eq q⟩
      · rw [if_neg hl] at eq; cases eq
  | _ => cases eq
def mAsg (m : Mi D) (t : D → Z → Option Z) : Mi Fl := mBind m fun d z => match t d z with
  | some z' => .ok .nx z'
  | none => .no
theorem ss_asg {tg : Expr} {t : D → Z → Option Z} (h : SE F e m) (k : SG F tg t) (hs : ∀ env : Env, env.scope = F.sc → swapsWithSole [tg] e pos.line env = pure false := by intro _ _; rfl) (hw : ∀ env : Env, env.scope = F.sc → swappedStores [tg] e env = pure none := by intro _ _; rfl)
    (h1 : ∀ env, (assignEach [tg] env).map (·.2) = [assign tg env] := by intro _; rfl) : SS F (.Assign [tg] e pos) (mAsg m t) := by
  obtain ⟨te, a1, a2⟩ := h.ex
  obtain ⟨g, b1, b2⟩ := k.ex
  refine ⟨_, fun X hX => ps_asg (a1 X hX) (b1 X hX) (hs X.env (F.eqs X hX).2.2.2.2.2.2.1) (hw X.env (F.eqs X hX).2.2.2.2.2.2.1) (h1 X.env), fun fr w σ H z fp E R q => ?_⟩
  refine a2 fr w σ H z fp _ R (q.cut.imp fun d w1 H1 z1 fp1 R1 l1 k v r => ?_)
  have k := k.2.2
  cases e1 : t d z1 with
  | some z' =>
    rw [e1] at k
    exact b2 fr w1 σ H1 z1 z' fp1 v d _ R1 r e1 fun σ' fp' R' => k σ' w1 H1 fp' R' (World.le_refl w1)
  | none => rw [e1] at k; exact k.elim
/-- name = a new thing: the slot owns it -/
def mOwn (i : Nat) (m : Mi B) : Mi Fl := mBind m fun b z => .ok .nx ⟨z.e.set i b, z.s⟩
theorem tsd_own (i : Nat) {te : TE} {m : Mi B} (h : TBD F te m) : TSD F (tAsg te (gName i)) (mOwn i m) := fun fr w σ H z fp E R q => by
  refine h fr w σ H z fp _ R ?_
  unfold mOwn mBind at q
  cases e1 : m z with
  | ok b z' =>
    rw [e1] at q
    intro v w' H' fp' R' l
    exact q _ w' H' _ (R'.give i) l
  | ex c z' => rw [e1] at q; exact fun w' H' fp' R' l => q σ w' H' fp' R' l
  | no => rw [e1] at q; exact q
theorem ss_own (i : Nat) {x : Str} {p : Pos} {m : Mi B} (h : SB F e m) (hN : F.N[i]? = some x := by rfl) (hl : Loc F.sc x := by first | exact Or.inl rfl | exact Or.inr rfl) (hf : F.fn x = true ∨ F.sc.names.lookup x = some .local := by first | exact .inl rfl | exact .inr rfl)
    (hs : ∀ env : Env, env.scope = F.sc → swapsWithSole [.Name x p] e pos.line env = pure false := by intro _ _; rfl) : SS F (.Assign [.Name x p] e pos) (mOwn i m) := by
  obtain ⟨te, a1, a2⟩ := h.ex
  refine ⟨_, fun X hX => ps_asg (a1 X hX) (pg_name (by rw [(F.eqs X hX).2.2.2.2.2.1]; exact F.nd) (by rw [(F.eqs X hX).2.2.2.2.2.1]; exact hN) (loc_ok hX hl) (fn_ok hX hf)) (hs X.env (F.eqs X hX).2.2.2.2.2.2.1), tsd_own i a2⟩
end
end M
namespace M
open PySem L2
open PyProof.Rows (envOfC)

/-! ## defs -/
inductive RF where
  | ok (d : D) (s : List SObj)
  | ex (c : Str) (s : List SObj)
  | no
abbrev Mir := List D → List SObj → RF
structure Bs where
  P : Program
  w : PySem.World
  K : PySem.W.Frag
  mg : Str → Option Value
  base : Heap
def Bs.exv (S : Bs) (c : Str) : Value := (S.mg c).getD .none
def Fam.bs (F : Fam) : Bs := ⟨F.P, F.w, F.K, F.mg, F.base⟩
structure Ent (K : PySem.W.Frag) (w : World) (H : Hp) (S : List SObj) : Prop where
  sub : ∀ (a : Addr) (o : HO), w.H0 a = some o → H a = some o
  shl : w.mu.length = S.length
  sh : ∀ (n : Nat) (l : List Addr) (o : SObj), w.mu[n]? = some l → S[n]? = some o → SObjR K w H l o
  shd : w.mu.flatten.Nodup
  sh0 : ∀ (a : Addr), a ∈ w.mu.flatten → w.H0 a = none
def frC (H : Hp) (w : World) : Fr := ⟨H, w, fun a => a ∈ w.mu.flatten⟩
/-- called with what stands for ds, a def does what f says -/
def spOf (S : Bs) (n : Nat) (f : Mir) : Sp := fun vs H Q E => vs.length = n ∧ ∃ w ds s, Ent S.K w H s ∧ RepL S.K w vs ds ∧ (match f ds s with
  | .ok d s' => ∀ v w' H', Rel S.K (frC H w) w' [] H' ⟨[], s'⟩ (fun _ => []) → Rep S.K w' v d → Q v H'
  | .ex c s' => ∀ w' H', Rel S.K (frC H w) w' [] H' ⟨[], s'⟩ (fun _ => []) → E (S.exv c) none H'
  | .no => False)
structure Cal (S : Bs) (x : Str) (n k : Nat) (f : Mir) : Prop where
  ex : ∃ (fa : Addr) (fd : FuncData) (ps : List Str), FnOk S.P S.w S.K S.mg S.base (L2.CX S.P S.w) k fa fd ps (spOf S n f) ∧ S.mg x = some (.ref fa) ∧ PySem.W.keepIn S.K (.ref fa) = true ∧ Binds S.K fd ps [] ∧ ps.length = n

section
variable {F : Fam} {e : Expr} {pos : Pos}
theorem Rel.ent {K : PySem.W.Frag} {fr : Fr} {w : World} {σ : St} {H : Hp} {z : Z} {fp : Nat → List Addr} (R : Rel K fr w σ H z fp) : Ent K w H z.s := ⟨R.sub, R.shl, R.sh, R.shd, fun a m => (R.sh0 a m).1⟩
theorem pfAt_none (w : World) (fp : Nat → List Addr) : pfAt w fp (fun _ => False) = fun a => a ∈ w.mu.flatten := by
  funext a
  apply propext
  constructor
  · rintro (h | ⟨_, h, _⟩)
    · exact h
    · exact h.elim
  · exact fun h => .inl h
/-- behind a call -/
theorem Rel.called {K : PySem.W.Frag} {fr : Fr} {w w' : World} {σ : St} {H H' : Hp} {z : Z} {s' : List SObj} {fp : Nat → List Addr} (R : Rel K fr w σ H z fp) (R1 : Rel K (frC H w) w' [] H' ⟨[], s'⟩ (fun _ => [])) : Rel K fr w' σ H' ⟨z.e, s'⟩ fp := by
  have R1 : Rel K ⟨H, w, pfAt w fp (fun _ => False)⟩ w' [] H' ⟨[], s'⟩ (fun _ => []) := by
    rw [pfAt_none]; exact R1
  exact R.back R1 R.len (fun _ h => h.elim) fun _ _ => ⟨rfl, rfl, rfl⟩
def mCall (n : Nat) (f : Mir) (ms : Mi (List D)) : Mi D := mBind ms fun ds z => if ds.length = n then (match f ds z.s with
  | .ok d s => .ok d ⟨z.e, s⟩
  | .ex c s => .ex c ⟨z.e, s⟩
  | .no => .no) else .no
theorem se_call {x : Str} {p : Pos} {es : List Expr} {ms : Mi (List D)} {n k : Nat} {f : Mir} (G : Cal F.bs x n k f) (ha : SA F (e :: es) ms) (hk : k ≤ F.lvl) (hc : F.cal = true := by rfl) (hg : F.sc.names.lookup x = some .globalImplicit := by rfl)
    (hdb : (x == ("__debug__" : Str)) = false := by decide) (he : ∀ env, starEach (e :: es) env = (false, eval e env) :: starEach es env := by intro _; rfl) (hpl : ∀ env, (backTo pos (starEach es env)).any (·.1) = false := by intro _; rfl) :
    SE F (.Call (.Name x p) (e :: es) [] pos) (mCall n f ms) := by
  obtain ⟨fa, fd, ps, G1, G2, G3, G4, G5⟩ := G.ex
  obtain ⟨ta, a1, a2⟩ := ha.ex
  refine ⟨tCallS (spOf F.bs n f) (WE F.W) ta, fun X hX => ?_, fun fr w σ H z fp Q R q => ?_⟩
  · obtain ⟨e1, e2, e3, e4, e5, e6, e7, e8⟩ := F.eqs X hX
    have G1 : FnOk X.prog X.w X.K X.mg X.base (L2.CX X.prog X.w) k fa fd ps (spOf F.bs n f) := by rw [e1, e2, e3, e4, e5]; exact G1
    exact pe_callS G1 ((F.room X hX hc).mono hk) (by show X.env.scope.names.lookup x = _; rw [e7]; exact hg) (by rw [e4]; exact G2) (by rw [e3]; exact G3) (by rw [e3]; exact G4) (passAt (F.tk X hX hc)) (a1 X hX) hdb (he X.env) (hpl X.env)
  · refine a2 fr w σ H z fp _ R (q.cut.imp fun ds w1 H1 z1 fp1 R1 l1 k vs rs => ?_)
    have k := k.2.2
    split at k
    · rename_i hl
      refine ⟨by rw [rs.length]; exact hl, w1, ds, z1.s, R1.ent, rs, ?_⟩
      cases e1 : f ds z1.s with
      | ok d s' =>
        rw [e1] at k
        exact fun v w' H' R' rv => k w' H' fp1 (R1.called R') R'.ge v rv
      | ex c s' =>
        rw [e1] at k
        exact fun w' H' R' => k w' H' fp1 (R1.called R') R'.ge
      | no => rw [e1] at k; exact k.elim
    · exact k.elim

/-! ### a def's own context -/
def famDef (S : Bs) (N ps : List Str) (st : Stmt) (qual : Str) (f : Addr) (cdv : Value) (A : Around) (outer : List Env) (s : Shared) (H : Hp) (E : XK) (lvl : Nat) (hS : FnScope N ps (defScope st))
    (hr : Room lvl (A.deeper (envOfC qual (defScope st) s.heap.objs.size f cdv))) : Fam where
  C := fun X => X = cxOf (L2.CX S.P S.w) S.P S.w S.K S.mg S.base N qual (defScope st) f cdv A outer s H E
  P := S.P
  w := S.w
  K := S.K
  mg := S.mg
  base := S.base
  N := N
  nd := hS.nd
  sc := defScope st
  fn := fun _ => true
  lvl := lvl
  cal := true
  W := fun cls d _ H => E cls d H
  eqs := fun X hX => by subst hX; exact ⟨rfl, rfl, rfl, rfl, rfl, rfl, rfl, rfl⟩
  calm := fun X hX _ => by subst hX; rfl
  room := fun X hX _ => by subst hX; exact hr
  tk := fun X hX _ => by subst hX; exact takes_of rfl rfl rfl rfl
  pass := fun X hX => by subst hX; exact passes_of rfl
def mFun (n : Nat) (m : Mi Fl) : Mir := fun ds s => match m ⟨ds.map .v ++ List.replicate (n - ds.length) .un, s⟩ with
  | .ok .nx z => .ok .non z.s
  | .ok (.rt d) z => .ok d z.s
  | .ok _ _ => .no
  | .ex c z => .ex c z.s
  | .no => .no
theorem rel_start {K : PySem.W.Frag} {w : World} {H : Hp} {S : List SObj} {N : List Str} {vs : List V} {ds : List D} (e : Ent K w H S) (r : RepL K w vs ds) (hl : vs.length ≤ N.length) :
    Rel K (frC H w) w (L2.start N vs) H ⟨ds.map .v ++ List.replicate (N.length - ds.length) .un, S⟩ (fun _ => []) := by
  have hd := r.length
  refine ⟨e.sub, World.le_refl w, fun _ _ h _ => h, fun _ o h => ⟨o, h⟩, fun _ _ h => .inl h, ?_, fun i b q => ?_, fun _ _ => rfl, fun _ _ m => (by cases m), fun _ => List.nodup_nil, fun _ _ _ m => (by cases m), e.shl, e.sh, e.shd, fun a m => ⟨e.sh0 a m, .inr m⟩⟩
  · unfold L2.start
    simp
    omega
  · have q : (ds.map B.v ++ List.replicate (N.length - ds.length) .un)[i]? = some b := q
    by_cases hi : i < ds.length
    · rw [List.getElem?_append_left (by simpa using hi), List.getElem?_map, List.getElem?_eq_getElem hi] at q
      cases q
      obtain ⟨v, h1, h2⟩ := r.get (List.getElem?_eq_getElem hi)
      refine ⟨rfl, v, ?_, h2⟩
      unfold slot L2.start
      rw [List.getElem?_append_left (by simpa [hd] using hi), List.getElem?_map, h1]
      rfl
    · rw [List.getElem?_append_right (by simpa using hi), List.getElem?_replicate] at q
      split at q
      · cases q; rfl
      · cases q
theorem fn_mk {S : Bs} {x qual : Str} {st : Stmt} {fa : Addr} {fd : FuncData} {N ps : List Str} {k : Nat} {m : Mi Fl} (Fu : Fun S.K x qual st fa fd) (hS : FnScope N ps (defScope st))
    (body : ∀ (cdv : Value) (A : Around) (outer : List Env) (s : Shared) (H : Hp) (E : XK) (hr : Room k (A.deeper (envOfC qual (defScope st) s.heap.objs.size fa cdv))), SSs (famDef S N ps st qual fa cdv A outer s H E k hS hr) (defBody st) m) :
    FnOk S.P S.w S.K S.mg S.base (L2.CX S.P S.w) (k + 1) fa fd ps (spOf S ps.length (mFun N.length m)) := by
  refine Fu.okX hS (fun vs H Q E h => h.1) (fun cdv A outer s H vs Q E hr h => ?_)
  obtain ⟨hl, w, ds, s', en, rs, post⟩ := h
  obtain ⟨t, h1, h2⟩ := (body cdv A outer s H E hr).ex
  refine ⟨t, h1 _ rfl, ?_⟩
  have hpl : ps.length ≤ N.length := by have := congrArg List.length hS.pre; rw [List.length_take] at this; omega
  refine h2 (frC H w) w (L2.start N vs) H _ _ _ (rel_start en rs (by rw [hl]; exact hpl)) ?_
  unfold mFun at post
  cases e1 : m ⟨ds.map .v ++ List.replicate (N.length - ds.length) .un, s'⟩ with
  | ok f z =>
    rw [e1] at post
    cases f with
    | nx => exact fun σ' w' H' fp' R l => post .non w' H' R.drop .non
    | bk => exact post.elim
    | ct => exact post.elim
    | rt d => exact fun σ' v w' H' fp' R l rv => post v w' H' R.drop rv
  | ex c z => rw [e1] at post; exact fun σ' w' H' fp' R l => post w' H' R.drop
  | no => rw [e1] at post; exact post.elim
theorem cal_mk {S : Bs} {x qual : Str} {st : Stmt} {fa : Addr} {fd : FuncData} {N ps : List Str} {k : Nat} {m : Mi Fl} (Fu : Fun S.K x qual st fa fd) (mgx : S.mg x = some (.ref fa)) (hS : FnScope N ps (defScope st)) (bd : Binds S.K fd ps [])
    (body : ∀ (cdv : Value) (A : Around) (outer : List Env) (s : Shared) (H : Hp) (E : XK) (hr : Room k (A.deeper (envOfC qual (defScope st) s.heap.objs.size fa cdv))), SSs (famDef S N ps st qual fa cdv A outer s H E k hS hr) (defBody st) m) :
    Cal S x ps.length (k + 1) (mFun N.length m) := ⟨fa, fd, ps, fn_mk Fu hS body, mgx, Fu.kp, bd, rfl⟩
theorem Cal.up {S : Bs} {x : Str} {n j k : Nat} {f : Mir} (h : Cal S x n j f) (l : j ≤ k) : Cal S x n k f := by
  obtain ⟨fa, fd, ps, h1, h2, h3, h4, h5⟩ := h.ex
  exact ⟨fa, fd, ps, h1.mono l, h2, h3, h4, h5⟩
end
/-! ### raise X('..') of an own class -/
structure Exc (S : Bs) (x : Str) : Prop where
  ex : ∃ C, S.mg x = some (.ref C) ∧ PySem.W.excIn S.K C [.type "ValueError", .type "Exception", .type "BaseException", .type "object"] "ValueError.__new__" = true ∧ PySem.W.keepIn S.K (.ref C) = true ∧ PySem.W.subIn S.K (.ref C) (.type "BaseException") = some true ∧ PySem.W.typeIn S.K (.ref C) = some (.type "type")
def mRaise (c : Str) : Mi Fl := fun z => .ex c z
section
variable {F : Fam}
theorem ss_raise {x m : Str} {j : Nat} {p p2 p3 pos : Pos} (G : Exc F.bs x) (hc : F.cal = true := by rfl) (hg : F.sc.names.lookup x = some .globalImplicit := by rfl) (hdb : (x == ("__debug__" : Str)) = false := by decide) :
    SS F (.Raise (some (.Call (.Name x p) [.Constant (.str m) j p2] [] p3)) none pos) (mRaise x) := by
  obtain ⟨C, g1, g2, g3, g4, g5⟩ := G.ex
  refine ⟨fun _ σ H => F.W (.ref C) none σ H, fun X hX => ?_, fun fr w σ H z fp E R q => ?_⟩
  · obtain ⟨e1, e2, e3, e4, e5, e6, e7, e8⟩ := F.eqs X hX
    have g2' : PySem.W.excIn X.K C [.type "ValueError", .type "Exception", .type "BaseException", .type "object"] "ValueError.__new__" = true := by rw [e3]; exact g2
    have g3' : PySem.W.keepIn X.K (.ref C) = true := by rw [e3]; exact g3
    have g4' : PySem.W.subIn X.K (.ref C) (.type "BaseException") = some true := by rw [e3]; exact g4
    have g5' : PySem.W.typeIn X.K (.ref C) = some (.type "type") := by rw [e3]; exact g5
    have g1' : X.mg x = some (.ref C) := by rw [e4]; exact g1
    have hg' : Gl X x := by show X.env.scope.names.lookup x = _; rw [e7]; exact hg
    exact ps_raise (F.calm X hX hc) (F.tk X hX hc) (pmk_own PySem.F.excBase_ValueError g2' g1' g3' (raises_own g4' g5') hg' hdb)
  · have q : ∀ σ' w' H' fp', Rel F.K fr w' σ' H' z fp' → w.le w' → F.raise x σ' H' := q
    have h := q σ w H fp R (World.le_refl w)
    unfold Fam.raise at h
    rw [show F.mg x = some (.ref C) from g1] at h
    exact h
end
end M
namespace M
open PySem L2
open PyProof.Rows (envOfC)

/-! ## walks -/
/-- J goes over what stands for ds, whatever else is done meanwhile -/
def ItOk (K : PySem.W.Frag) (w : World) (J : It) (ds : List D) : Prop := ∀ fr w' σ H z fp, Rel K fr w' σ H z fp → w.le w' → ∀ i : Nat,
  (∀ d, ds[i]? = some d → J.go i H ∧ ∀ x H', J.yld i H x H' → ∃ w'', Rel K fr w'' σ H' z fp ∧ w'.le w'' ∧ Rep K w'' x d ∧ (∀ a o, H a = some o → H' a = some o)) ∧ (ds[i]? = none → i = ds.length → J.stop i H)
def TID (F : Fam) (wi : TI) (m : Mi (List D)) : Prop := ∀ fr w σ H z fp (Rr : It → Hp → Prop), Rel F.K fr w σ H z fp → Ens F fr w σ (m z) (fun ds w' H' _ _ => ∀ J, ItOk F.K w' J ds → Rr J H') → wi σ H Rr
structure SI (F : Fam) (tg iter : Expr) (m : Mi (List D)) : Prop where
  ex : ∃ wi, (∀ X, F.C X → PI X tg iter wi) ∧ TID F wi m
section
variable {F : Fam} {e tg : Expr} {pos : Pos} {m : Mi D}
theorem itl_ok {K : PySem.W.Frag} {w : World} {a : Addr} {vs : List V} {ds : List D} (h : SqL K w.H0 a vs) (r : RepL K w vs ds) : ItOk K w (Itl K a) ds := by
  intro fr w' σ H z fp R l i
  have hH : SqL K H a vs := R.sqL (sqL_mono l h)
  refine ⟨fun d e => ?_, fun e hi => ⟨vs, hH, by rw [r.length, hi]; exact Nat.le_refl _⟩⟩
  obtain ⟨v, h1, h2⟩ := r.get e
  refine ⟨⟨vs, v, hH, h1⟩, fun x H' y => ?_⟩
  obtain ⟨e1, y⟩ := y
  subst e1
  have := y vs hH
  rw [h1] at this
  cases this
  exact ⟨w', R, World.le_refl w', h2.mono l, fun _ _ q => q⟩
theorem itt_ok {K : PySem.W.Frag} {w : World} {a : Addr} {vs : List V} {ds : List D} (h : SqT K w.H0 a vs) (r : RepL K w vs ds) : ItOk K w (Itt K a) ds := by
  intro fr w' σ H z fp R l i
  have hH : SqT K H a vs := R.sqT (sqT_mono l h)
  refine ⟨fun d e => ?_, fun e hi => ⟨vs, hH, by rw [r.length, hi]; exact Nat.le_refl _⟩⟩
  obtain ⟨v, h1, h2⟩ := r.get e
  refine ⟨⟨vs, v, hH, h1⟩, fun x H' y => ?_⟩
  obtain ⟨e1, y⟩ := y
  subst e1
  have := y vs hH
  rw [h1] at this
  cases this
  exact ⟨w', R, World.le_refl w', h2.mono l, fun _ _ q => q⟩
/-- lo, lo + 1, .. -/
def upto (lo : Int) (n : Nat) : List D := (List.range n).map fun (k : Nat) => D.int (lo + (k : Int))
theorem upto_get {lo : Int} {n i : Nat} {d : D} (e : (upto lo n)[i]? = some d) : i < n ∧ d = .int (lo + (i : Int)) := by
  unfold upto at e
  rw [List.getElem?_map] at e
  by_cases h : i < n
  · rw [List.getElem?_range h] at e
    cases e
    exact ⟨h, rfl⟩
  · rw [List.getElem?_eq_none (by simpa using h)] at e
    cases e
theorem itr_ok {K : PySem.W.Frag} {w : World} {lo : Int} {n : Nat} : ItOk K w (Itr lo n) (upto lo n) := by
  intro fr w' σ H z fp R l i
  refine ⟨fun d e => ?_, fun e hi => by show n ≤ i; rw [hi]; unfold upto; simp⟩
  obtain ⟨h1, rfl⟩ := upto_get e
  refine ⟨h1, fun x H' y => ?_⟩
  obtain ⟨e1, e2⟩ := y
  subst e1
  subst e2
  exact ⟨w', R, World.le_refl w', .int _, fun _ _ q => q⟩
theorem pi_or2 {X : Cx} {w1 w2 : TI} (h1 : PI X tg e w1) (h2 : PI X tg e w2) : PI X tg e (fun σ H R => w1 σ H R ∨ w2 σ H R) := ⟨fun pins s σ H R I h => by
  rcases h with h | h
  · exact h1.run pins s σ H R I h
  · exact h2.run pins s σ H R I h⟩
def mItems (m : Mi D) : Mi (List D) := mBind m fun d => mLift (items d)
theorem si_seq (h : SE F e m) : SI F tg e (mItems m) := by
  obtain ⟨te, h1, h2⟩ := h.ex
  refine ⟨fun σ H R => iList F.K te σ H R ∨ iTup F.K te σ H R, fun X hX => ?_, fun fr w σ H z fp Rr R q => ?_⟩
  · have a1 := pi_list (tg := tg) (h1 X hX)
    have a2 := pi_tup (tg := tg) (h1 X hX)
    rw [F_K hX] at a1 a2
    exact pi_or2 a1 a2
  · cases e1 : m z with
    | ok d z' =>
      unfold mItems mBind at q
      rw [e1] at q
      have q : Ens F fr w σ (mLift (items d) z') _ := q
      have go : ∀ ds, items d = some ds → (∀ v w' H' fp', Rel F.K fr w' σ H' z' fp' → w.le w' → Rep F.K w' v d → ∀ J, ItOk F.K w' J ds → Rr J H') := fun ds e2 v w' H' fp' R' l r J ok => by
        rw [e2] at q
        exact q w' H' fp' R' l J ok
      cases d with
      | tup ds =>
        refine .inr (h2 fr w σ H z fp _ R ?_)
        rw [e1]
        intro w' H' fp' R' l v r
        cases r with
        | tup s r' => exact ⟨_, rfl, ⟨_, R'.sqT s⟩, go ds rfl _ w' H' fp' R' l (.tup s r') _ (itt_ok s r')⟩
      | lst ds =>
        refine .inl (h2 fr w σ H z fp _ R ?_)
        rw [e1]
        intro w' H' fp' R' l v r
        cases r with
        | lst s r' => exact ⟨_, rfl, ⟨_, .inl (.inl (R'.sub _ _ s))⟩, go ds rfl _ w' H' fp' R' l (.lst s r') _ (itl_ok (.inl (.inl s)) r')⟩
      | fz ds =>
        refine .inl (h2 fr w σ H z fp _ R ?_)
        rw [e1]
        intro w' H' fp' R' l v r
        cases r with
        | fz s r' => exact ⟨_, rfl, ⟨_, R'.sqL s⟩, go ds rfl _ w' H' fp' R' l (.fz s r') _ (itl_ok s r')⟩
      | _ => exact q.elim
    | ex c z' =>
      refine .inl (h2 fr w σ H z fp _ R ?_)
      unfold mItems mBind at q
      rw [e1] at q ⊢
      exact q
    | no =>
      unfold mItems mBind at q
      rw [e1] at q
      exact q.elim
def mRange1 (m : Mi D) : Mi (List D) := mBind m fun d => match d with
  | .int j => if -(2 ^ 62) ≤ j ∧ j < 2 ^ 62 then mPure (upto 0 j.toNat) else mNo
  | _ => mNo
theorem si_range1 {p : Pos} (h : SE F e m) (hm : F.mg ("range" : Str) = none) (hg : F.sc.names.lookup ("range" : Str) = some .globalImplicit := by rfl) (hs : ∀ env, starEach [e] env = [(false, eval e env)] := by intro _; rfl) :
    SI F tg (.Call (.Name ("range" : Str) p) [e] [] pos) (mRange1 m) := by
  obtain ⟨te, h1, h2⟩ := h.ex
  refine ⟨iRng1 (tCons te tNil), fun X hX => ?_, fun fr w σ H z fp Rr R q => ?_⟩
  · obtain ⟨e1, e2, e3, e4, e5, e6, e7, e8⟩ := F.eqs X hX
    exact pi_range1 (by show X.env.scope.names.lookup _ = _; rw [e7]; exact hg) (by rw [e4]; exact hm) (pa_cons (h1 X hX) pa_nil (by rw [hs]; rfl)) (hs X.env)
  · refine h2 fr w σ H z fp _ R (q.cut.imp fun d w1 H1 z1 fp1 R1 l1 k v r => ?_)
    have k := k.2.2
    cases d with
    | int j =>
      cases r
      have k : Ens F fr w1 σ ((if -(2 ^ 62) ≤ j ∧ j < 2 ^ 62 then mPure (upto 0 j.toNat) else mNo) z1) _ := k
      by_cases hj : -(2 ^ 62) ≤ j ∧ j < 2 ^ 62
      · rw [if_pos hj] at k
        exact ⟨j, rfl, hj.1, hj.2, k w1 H1 fp1 R1 (World.le_refl w1) _ itr_ok⟩
      · rw [if_neg hj] at k
        exact k.elim
    | _ => exact k.elim
def mRange2 (m m' : Mi D) : Mi (List D) := mBind m fun d => mBind m' fun d' => match d, d' with
  | .int i, .int j => if -(2 ^ 62) ≤ i ∧ i < 2 ^ 62 ∧ -(2 ^ 62) ≤ j ∧ j < 2 ^ 62 then mPure (upto i (j - i).toNat) else mNo
  | _, _ => mNo
theorem si_range2 {p : Pos} {e' : Expr} {m' : Mi D} (h : SE F e m) (h' : SE F e' m') (hm : F.mg ("range" : Str) = none) (hg : F.sc.names.lookup ("range" : Str) = some .globalImplicit := by rfl)
    (hs : ∀ env, starEach [e, e'] env = [(false, eval e env), (false, eval e' env)] := by intro _; rfl) (hs2 : ∀ env, starEach [e'] env = [(false, eval e' env)] := by intro _; rfl) :
    SI F tg (.Call (.Name ("range" : Str) p) [e, e'] [] pos) (mRange2 m m') := by
  obtain ⟨te, h1, h2⟩ := h.ex
  obtain ⟨te', k1, k2⟩ := h'.ex
  refine ⟨iRng2 (tCons te (tCons te' tNil)), fun X hX => ?_, fun fr w σ H z fp Rr R q => ?_⟩
  · obtain ⟨e1, e2, e3, e4, e5, e6, e7, e8⟩ := F.eqs X hX
    exact pi_range2 (by show X.env.scope.names.lookup _ = _; rw [e7]; exact hg) (by rw [e4]; exact hm) (pa_cons (h1 X hX) (pa_cons (k1 X hX) pa_nil (by rw [hs2]; rfl)) (by rw [hs, hs2])) (hs X.env) (hs2 X.env)
  · refine h2 fr w σ H z fp _ R (q.cut.imp fun d w1 H1 z1 fp1 R1 l1 k v r => ?_)
    refine k2 fr w1 σ H1 z1 fp1 _ R1 (k.2.2.cut.imp fun d' w2 H2 z2 fp2 R2 l2 k v' r' => ?_)
    have k := k.2.2
    cases d with
    | int i =>
      cases d' with
      | int j =>
        cases r
        cases r'
        have k : Ens F fr w2 σ ((if -(2 ^ 62) ≤ i ∧ i < 2 ^ 62 ∧ -(2 ^ 62) ≤ j ∧ j < 2 ^ 62 then mPure (upto i (j - i).toNat) else mNo) z2) _ := k
        by_cases hj : -(2 ^ 62) ≤ i ∧ i < 2 ^ 62 ∧ -(2 ^ 62) ≤ j ∧ j < 2 ^ 62
        · rw [if_pos hj] at k
          exact ⟨i, j, rfl, hj, k w2 H2 fp2 R2 (World.le_refl w2) _ itr_ok⟩
        · rw [if_neg hj] at k
          exact k.elim
      | _ => exact k.elim
    | _ => exact k.elim

/-! ## for, while -/
def mForGo (t : D → Z → Option Z) (b : Mi Fl) : List D → Mi Fl
  | [] => mFl .nx
  | d :: ds => fun z => match t d z with
    | none => .no
    | some z1 => match b z1 with
      | .ok .nx z2 => mForGo t b ds z2
      | .ok .ct z2 => mForGo t b ds z2
      | .ok .bk z2 => .ok .nx z2
      | r => r
def mFor (mi : Mi (List D)) (t : D → Z → Option Z) (b : Mi Fl) : Mi Fl := mBind mi fun ds => mForGo t b ds
theorem tsd_for {wi : TI} {g : TG} {tb : TS} {mi : Mi (List D)} {t : D → Z → Option Z} {b : Mi Fl} (hi : TID F wi mi) (hg : TGD F g t) (hb : TSD F tb b) : TSD F (tFor wi g tb) (mFor mi t b) := fun fr w σ H z fp E R q => by
  refine hi fr w σ H z fp _ R ((q.cut).imp fun ds w1 H1 z1 fp1 R1 l1 k J ok => ?_)
  have k := k.2.2
  refine ⟨fun i n σ H => n = ds.length - i ∧ i ≤ ds.length ∧ ∃ w z fp, Rel F.K fr w σ H z fp ∧ w1.le w ∧ EnsS F fr w (mForGo t b (ds.drop i) z) E, ⟨ds.length, by simp, Nat.zero_le _, w1, z1, fp1, R1, World.le_refl w1, by rw [List.drop_zero]; exact k⟩, ?_⟩
  rintro i n σ' H' ⟨rfl, hi', w', z', fp', R', l', k'⟩
  by_cases hlt : i < ds.length
  · obtain ⟨g1, g2⟩ := (ok fr w' σ' H' z' fp' R' l' i).1 ds[i] (List.getElem?_eq_getElem hlt)
    refine .inr ⟨g1, fun σ H => ∃ w z fp, Rel F.K fr w σ H z fp ∧ w1.le w ∧ EnsS F fr w (mForGo t b (ds.drop (i + 1)) z) E, fun σ2 H2 h => ⟨ds.length - (i + 1), by omega, rfl, hlt, h⟩, fun x H2 y => ?_⟩
    obtain ⟨w2, R2, l2, r2, _⟩ := g2 x H2 y
    rw [List.drop_eq_getElem_cons hlt] at k'
    have k' : EnsS F fr w' (match t ds[i] z' with
      | none => M.R.no
      | some z1 => match b z1 with
        | .ok .nx z2 => mForGo t b (ds.drop (i + 1)) z2
        | .ok .ct z2 => mForGo t b (ds.drop (i + 1)) z2
        | .ok .bk z2 => M.R.ok .nx z2
        | r => r) E := k'
    cases e1 : t ds[i] z' with
    | none => rw [e1] at k'; exact k'.elim
    | some z3 =>
      rw [e1] at k'
      refine hg fr w2 σ' H2 z' z3 fp' x ds[i] _ R2 r2 e1 fun σ3 fp3 R3 => ?_
      refine hb fr w2 σ3 H2 z3 fp3 _ R3 ?_
      have k' := EnsS.up l2 k'
      cases e2 : b z3 with
      | ok f z4 =>
        cases f with
        | nx => simp only [e2] at k'; exact fun σ4 w4 H4 fp4 R4 l4 => ⟨w4, z4, fp4, R4, World.le_trans l' (World.le_trans l2 l4), EnsS.up l4 k'⟩
        | ct => simp only [e2] at k'; exact fun σ4 w4 H4 fp4 R4 l4 => ⟨w4, z4, fp4, R4, World.le_trans l' (World.le_trans l2 l4), EnsS.up l4 k'⟩
        | bk => simp only [e2] at k'; exact k'
        | rt d => simp only [e2] at k'; exact k'
      | ex c z4 => simp only [e2] at k'; exact k'
      | no => simp only [e2] at k'; exact k'
  · have e : i = ds.length := by omega
    subst e
    rw [List.drop_length] at k'
    exact .inl ⟨(ok fr w' σ' H' z' fp' R' l' _).2 (by simp) rfl, k' σ' w' H' fp' R' (World.le_refl w')⟩
theorem ss_for {iter : Expr} {body : List Stmt} {mi : Mi (List D)} {t : D → Z → Option Z} {b : Mi Fl} (hi : SI F tg iter mi) (hg : SG F tg t) (hb : SSs F body b) (hc : F.cal = true := by rfl) (hs : ∀ env x, foldedSetIterable iter env x = pure x := by intro _ _; rfl) :
    SS F (.For tg iter body [] pos) (mFor mi t b) := by
  obtain ⟨wi, i1, i2⟩ := hi.ex
  obtain ⟨g, g1, g2⟩ := hg.ex
  obtain ⟨tb, b1, b2⟩ := hb.ex
  exact ⟨_, fun X hX => ps_for (F.pass X hX) (F.calm X hX hc) (i1 X hX) (g1 X hX) (b1 X hX) (hs X.env), tsd_for i2 g2 b2⟩
def mWhile (c : Mi Bool) (b : Mi Fl) : Nat → Mi Fl
  | 0 => mNo
  | n + 1 => mBind c fun t => if t = true then (fun z => match b z with
      | .ok .nx z' => mWhile c b n z'
      | .ok .ct z' => mWhile c b n z'
      | .ok .bk z' => .ok .nx z'
      | r => r) else mFl .nx
theorem tsd_while {tc : TT} {tb : TS} {c : Mi Bool} {b : Mi Fl} (n : Nat) (hc : TTD F tc c) (hb : TSD F tb b) : TSD F (tWhile tc tb) (mWhile c b n) := fun fr w0 σ0 H0 z0 fp0 E R0 q0 => by
  refine ⟨fun n σ H => ∃ w z fp, Rel F.K fr w σ H z fp ∧ EnsS F fr w (mWhile c b n z) E, ⟨n, w0, z0, fp0, R0, q0⟩, ?_⟩
  rintro n σ H ⟨w, z, fp, R, q⟩
  cases n with
  | zero => exact q.elim
  | succ n =>
    refine hc fr w σ H z fp _ R ((EnsS.cut q).imp fun t w1 H1 z1 fp1 R1 l1 k => ?_)
    have k := k.2.2
    cases t with
    | false => rw [if_neg Bool.false_ne_true] at k ⊢; exact k σ w1 H1 fp1 R1 (World.le_refl w1)
    | true =>
      rw [if_pos rfl] at k ⊢
      refine ⟨fun σ H => ∃ w z fp, Rel F.K fr w σ H z fp ∧ EnsS F fr w (mWhile c b n z) E, fun σ' H' h => ⟨n, Nat.lt_succ_self n, h⟩, ?_⟩
      refine hb fr w1 σ H1 z1 fp1 _ R1 ?_
      cases e2 : b z1 with
      | ok f z4 =>
        cases f with
        | nx => simp only [e2] at k; exact fun σ4 w4 H4 fp4 R4 l4 => ⟨w4, z4, fp4, R4, EnsS.up l4 k⟩
        | ct => simp only [e2] at k; exact fun σ4 w4 H4 fp4 R4 l4 => ⟨w4, z4, fp4, R4, EnsS.up l4 k⟩
        | bk => simp only [e2] at k; exact k
        | rt d => simp only [e2] at k; exact k
      | ex c z4 => simp only [e2] at k; exact k
      | no => simp only [e2] at k; exact k
theorem ss_while {c : Expr} {body : List Stmt} {mc : Mi Bool} {b : Mi Fl} (n : Nat) (hc : ST F c mc) (hb : SSs F body b) : SS F (.While c body [] pos) (mWhile mc b n) := by
  obtain ⟨tc, c1, c2⟩ := hc.ex
  obtain ⟨tb, b1, b2⟩ := hb.ex
  exact ⟨_, fun X hX => ps_while (F.pass X hX) (c1 X hX) (b1 X hX), tsd_while n c2 b2⟩
end
end M
namespace M
open PySem L2
open PyProof.Rows (envOfC)

/-! ## comprehensions -/
def Fam.blk (F : Fam) (scope : Scope) : Fam where
  C := fun Y => ∃ X, F.C X ∧ ∃ (s : Shared) (H : Hp) (C : Addr) (cl : List (Str × Addr)) (fp : List Addr), Y = X.blk s H scope (compEnvC scope cl C X.env) fp
  P := F.P
  w := F.w
  K := F.K
  mg := F.mg
  base := F.base
  N := F.N
  nd := F.nd
  sc := relS scope F.sc
  fn := fun x => scope.names.lookup x == some .cell
  lvl := F.lvl
  cal := F.cal
  W := fun _ _ _ _ => False
  eqs := fun Y ⟨X, hX, s, H, C, cl, fp, e⟩ => by
    subst e
    obtain ⟨e1, e2, e3, e4, e5, e6, e7, e8⟩ := F.eqs X hX
    exact ⟨e1, e2, e3, e4, e5, e6, by rw [← e7]; rfl, rfl⟩
  calm := fun Y ⟨X, hX, s, H, C, cl, fp, e⟩ hc => by subst e; exact F.calm X hX hc
  room := fun Y ⟨X, hX, s, H, C, cl, fp, e⟩ hc => by subst e; exact F.room X hX hc
  tk := fun Y ⟨X, hX, s, H, C, cl, fp, e⟩ hc => by subst e; exact takes0
  pass := fun Y ⟨X, hX, s, H, C, cl, fp, e⟩ => by subst e; exact PassesOwn.never

theorem wipe_get {σ : St} {j : Nat} : ∀ vs : List Nat, (wipe σ vs)[j]? = if j ∈ vs ∧ j < σ.length then some none else σ[j]?
  | [] => by simp [wipe]
  | v :: vs => by
    unfold wipe
    by_cases h : v = j
    · subst h
      by_cases hl : v < σ.length
      · rw [List.getElem?_set_self (by rw [wipe_length]; exact hl), if_pos ⟨by simp, hl⟩]
      · rw [if_neg fun h => hl h.2, List.getElem?_eq_none (by rw [List.length_set, wipe_length]; omega), List.getElem?_eq_none (by omega)]
    · rw [List.getElem?_set_ne h, wipe_get vs]
      have : (j ∈ v :: vs ∧ j < σ.length) ↔ (j ∈ vs ∧ j < σ.length) := by
        rw [List.mem_cons]
        constructor
        · rintro ⟨h1 | h1, h2⟩
          · exact absurd h1.symm h
          · exact ⟨h1, h2⟩
        · exact fun ⟨h1, h2⟩ => ⟨.inr h1, h2⟩
      simp only [this]
theorem wipe_set {σ : St} {i : Nat} {o : Option V} {vs : List Nat} (h : i ∈ vs) : wipe (σ.set i o) vs = wipe σ vs := by
  refine List.ext_getElem? fun j => ?_
  rw [wipe_get, wipe_get, List.length_set]
  by_cases hj : j ∈ vs ∧ j < σ.length
  · rw [if_pos hj, if_pos hj]
  · rw [if_neg hj, if_neg hj]
    by_cases hi : i = j
    · subst hi
      rw [List.getElem?_eq_none (by rw [List.length_set]; exact Nat.le_of_not_lt fun k => hj ⟨h, k⟩), List.getElem?_eq_none (Nat.le_of_not_lt fun k => hj ⟨h, k⟩)]
    · rw [List.getElem?_set_ne hi]
theorem wipe_wipe {σ : St} {vs : List Nat} : wipe (wipe σ vs) vs = wipe σ vs := by
  refine List.ext_getElem? fun j => ?_
  rw [wipe_get, wipe_get, wipe_length]
  split <;> rfl
theorem wipe_slot {σ : St} {vs : List Nat} {j : Nat} (h : j ∉ vs) : slot (wipe σ vs) j = slot σ j := by
  unfold slot
  rw [wipe_get, if_neg fun k => h k.1]
def wipeE (e : List B) : List Nat → List B
  | [] => e
  | v :: vs => (wipeE e vs).set v .un
theorem wipeE_length (e : List B) : ∀ vs : List Nat, (wipeE e vs).length = e.length
  | [] => rfl
  | v :: vs => by unfold wipeE; rw [List.length_set, wipeE_length e vs]
theorem wipeE_get {e : List B} {j : Nat} : ∀ vs : List Nat, (wipeE e vs)[j]? = if j ∈ vs ∧ j < e.length then some .un else e[j]?
  | [] => by simp [wipeE]
  | v :: vs => by
    unfold wipeE
    by_cases h : v = j
    · subst h
      by_cases hl : v < e.length
      · rw [List.getElem?_set_self (by rw [wipeE_length]; exact hl), if_pos ⟨by simp, hl⟩]
      · rw [if_neg fun h => hl h.2, List.getElem?_eq_none (by rw [List.length_set, wipeE_length]; omega), List.getElem?_eq_none (by omega)]
    · rw [List.getElem?_set_ne h, wipeE_get vs]
      have : (j ∈ v :: vs ∧ j < e.length) ↔ (j ∈ vs ∧ j < e.length) := by
        rw [List.mem_cons]
        constructor
        · rintro ⟨h1 | h1, h2⟩
          · exact absurd h1.symm h
          · exact ⟨h1, h2⟩
        · exact fun ⟨h1, h2⟩ => ⟨.inr h1, h2⟩
      simp only [this]
/-- the slots of vs as they were in o -/
def backE (o : List B) (n : List B) : List Nat → List B
  | [] => n
  | v :: vs => (backE o n vs).set v (o.getD v .un)
theorem backE_length (o n : List B) : ∀ vs : List Nat, (backE o n vs).length = n.length
  | [] => rfl
  | v :: vs => by unfold backE; rw [List.length_set, backE_length o n vs]
theorem backE_get {o n : List B} {j : Nat} (hl : o.length = n.length) : ∀ vs : List Nat, (backE o n vs)[j]? = if j ∈ vs then o[j]? else n[j]?
  | [] => by simp [backE]
  | v :: vs => by
    unfold backE
    by_cases h : v = j
    · subst h
      rw [if_pos (by simp)]
      by_cases hv : v < n.length
      · rw [List.getElem?_set_self (by rw [backE_length]; exact hv), List.getD_eq_getElem?_getD, List.getElem?_eq_getElem (by omega)]
        rfl
      · rw [List.getElem?_eq_none (by rw [List.length_set, backE_length]; omega), List.getElem?_eq_none (by omega)]
    · rw [List.getElem?_set_ne h, backE_get hl vs]
      have : j ∈ v :: vs ↔ j ∈ vs := by
        rw [List.mem_cons]
        exact ⟨fun k => k.elim (fun e => absurd e.symm h) id, .inr⟩
      simp only [this]
def Z.wipe (z : Z) (vs : List Nat) : Z := ⟨wipeE z.e vs, z.s⟩

/-- what a comprehension's target stores are its own names -/
def Wp (vs : List Nat) (g : TG) : Prop := ∀ v σ H (Q Q' : St → Hp → Prop), g v σ H Q → (∀ σ' H', wipe σ' vs = wipe σ vs → Q σ' H' → Q' σ' H') → g v σ H Q'
def Wps (vs : List Nat) (g : TGs) : Prop := ∀ v σ H (Q Q' : St → Hp → Prop), g v σ H Q → (∀ σ' H', wipe σ' vs = wipe σ vs → Q σ' H' → Q' σ' H') → g v σ H Q'
structure SGW (F : Fam) (vs : List Nat) (tg : Expr) (t : D → Z → Option Z) : Prop where
  ex : ∃ g, (∀ X, F.C X → PG X tg g) ∧ TGD F g t ∧ Wp vs g
def TGDs (F : Fam) (g : TGs) (t : List D → Z → Option Z) : Prop := ∀ fr w σ H z z' fp us ds (Q : St → Hp → Prop), Rel F.K fr w σ H z fp → RepL F.K w us ds → t ds z = some z' →
    (∀ σ' fp', Rel F.K fr w σ' H z' fp' → Q σ' H) → g us σ H Q
structure SGWs (F : Fam) (vs : List Nat) (ts : List Expr) (t : List D → Z → Option Z) : Prop where
  ex : ∃ g, (∀ X, F.C X → PGs X ts g) ∧ TGDs F g t ∧ Wps vs g
section
variable {F : Fam} {e tg : Expr} {pos : Pos} {m : Mi D} {vs : List Nat}
theorem sgw_name (i : Nat) {x : Str} {p : Pos} (hi : i ∈ vs := by decide) (hN : F.N[i]? = some x := by rfl) (hl : Loc F.sc x := by first | exact Or.inl rfl | exact Or.inr rfl) (hf : F.fn x = true ∨ F.sc.names.lookup x = some .local := by first | exact .inl rfl | exact .inr rfl) : SGW F vs (.Name x p) (tgName i) :=
  ⟨_, fun X hX => pg_name (by rw [(F.eqs X hX).2.2.2.2.2.1]; exact F.nd) (by rw [(F.eqs X hX).2.2.2.2.2.1]; exact hN) (loc_ok hX hl) (fn_ok hX hf), tgd_name i, fun v σ H Q Q' q k => k _ _ (wipe_set hi) q⟩
theorem sgws_nil : SGWs F vs [] tgsNil := by
  refine ⟨_, fun _ _ => pgs_nil, fun fr w σ H z z' fp vs ds Q R r e q => ?_, fun v σ H Q Q' q k => ⟨q.1, k _ _ rfl q.2⟩⟩
  cases r with
  | nil => cases e; exact ⟨rfl, q σ fp R⟩
  | cons _ _ => cases e
theorem sgws_cons {es : List Expr} {t : D → Z → Option Z} {u : List D → Z → Option Z} (h : SGW F vs e t) (k : SGWs F vs es u) (hs : ∀ env, (assignEach (e :: es) env).map (·.2) = assign e env :: (assignEach es env).map (·.2) := by intro _; rfl) : SGWs F vs (e :: es) (tgsCons t u) := by
  obtain ⟨g, h1, h2, h3⟩ := h.ex
  obtain ⟨gs, k1, k2, k3⟩ := k.ex
  refine ⟨_, fun X hX => pgs_cons (h1 X hX) (k1 X hX) (hs X.env), fun fr w σ H z z' fp vs ds Q R r eq q => ?_, fun us σ H Q Q' q k => ?_⟩
  · cases r with
    | nil => cases eq
    | cons r1 r2 =>
      rename_i v vs d ds
      refine ⟨v, vs, rfl, ?_⟩
      have eq : (t d z).bind (u ds) = some z' := eq
      cases e1 : t d z with
      | none => rw [e1] at eq; cases eq
      | some z1 =>
        rw [e1] at eq
        exact h2 fr w σ H z z1 fp v d _ R r1 e1 fun σ' fp' R' => k2 fr w σ' H z1 z' fp' vs ds Q R' r2 eq q
  · obtain ⟨v, r, rfl, q⟩ := q
    exact ⟨v, r, rfl, h3 v σ H _ _ q fun σ' H' e1 q' => k3 r σ' H' _ _ q' fun σ2 H2 e2 q2 => k σ2 H2 (e2.trans e1) q2⟩
theorem sgw_tup {es : List Expr} {k : Nat} {t : List D → Z → Option Z} {n : Nat} (h : SGWs F vs es t) (hc : F.cal = true := by rfl) (hn : ∀ env, (assignEach es env).length = n := by intro _; rfl) (hst : ∀ env, (assignEach es env).findIdx? (·.1) = none := by intro _; rfl) : SGW F vs (.Tuple es k pos) (tgTup n t) := by
  obtain ⟨g, h1, h2, h3⟩ := h.ex
  refine ⟨gTup F.K n g, fun X hX => by have := pg_tup (k := k) (pos := pos) (F.calm X hX hc) (h1 X hX) (hn X.env) (hst X.env); rw [F_K hX] at this; exact this, fun fr w σ H z z' fp v d Q R r eq q => ?_, fun v σ H Q Q' q k => ?_⟩
  · cases d with
    | tup ds =>
      cases r with
      | tup s r =>
        rename_i a vs
        have eq : (if ds.length = n then t ds z else none) = some z' := eq
        by_cases hl : ds.length = n
        · rw [if_pos hl] at eq
          exact ⟨a, vs, rfl, R.sqT s, by rw [r.length]; exact hl, h2 fr w σ H z z' fp vs ds Q R r eq q⟩
        · rw [if_neg hl] at eq; cases eq
    | _ => cases eq
  · obtain ⟨a, xs, rfl, h4, h5, q⟩ := q
    exact ⟨a, xs, rfl, h4, h5, h3 xs σ H _ _ q k⟩
end
section
variable {K : PySem.W.Frag} {fr : Fr} {w : World} {σ : St} {H : Hp} {z : Z} {fp : Nat → List Addr}
/-- an object that no one knows is written -/
theorem Rel.poke (R : Rel K fr w σ H z fp) {p : Addr} {o : HO} (h0 : w.H0 p = none) (hm : p ∉ w.mu.flatten) (hi : fr.Hin p = none) (hf : ∀ j, p ∉ fp j) : Rel K fr w σ (upd H p o) z fp := by
  refine ⟨fun a u e => ?_, R.ge, fun a u e n => ?_, fun a u e => ?_, R.fresh, R.len, fun j b e => SlotR.mono (World.le_refl w) (fun a m u q => ?_) (R.slots j b e), R.away, R.own, R.nd, R.dj, R.shl, fun n l u e e' => (R.sh n l u e e').mono (World.le_refl w) fun a m u' q => ?_, R.shd, R.sh0⟩
  · rw [upd_ne (fun h => by rw [h, h0] at e; cases e)]; exact R.sub a u e
  · rw [upd_ne (fun h => by rw [h, hi] at e; cases e)]; exact R.frame a u e n
  · obtain ⟨u', q⟩ := R.dom a u e
    exact ⟨u', by rw [upd_ne (fun h => by rw [h, hi] at e; cases e)]; exact q⟩
  · rw [upd_ne (fun h => hf j (by rw [← h]; exact m))]; exact q
  · rw [upd_ne (fun h => hm (List.mem_flatten.mpr ⟨l, List.mem_of_getElem? e, by rw [← h]; exact m⟩))]; exact q
/-- .. and given to a slot behind the others -/
theorem Rel.addBlob (R : Rel K fr w σ H z fp) {p : Addr} {b : B} (h0 : w.H0 p = none) (hm : p ∉ w.mu.flatten) (hi : fr.Hin p = none) (hf : ∀ j, p ∉ fp j) (hs : SlotR K w H (some (.ref p)) b [p]) :
    Rel K fr w (σ ++ [some (.ref p)]) H ⟨z.e ++ [b], z.s⟩ (fun j => if j = z.e.length then [p] else fp j) := by
  have hl := R.len
  refine ⟨R.sub, R.ge, R.frame, R.dom, R.fresh, by simp [hl], fun j b' e => ?_, fun j e => ?_, fun j a m => ?_, fun j => ?_, fun j k a m m' => ?_, R.shl, R.sh, R.shd, R.sh0⟩
  · have e : (z.e ++ [b])[j]? = some b' := e
    by_cases hj : j = z.e.length
    · subst hj
      rw [List.getElem?_append_right (Nat.le_refl _), Nat.sub_self] at e
      cases e
      rw [if_pos rfl, ← hl, slot_app_last]
      exact hs
    · have hjl : j < z.e.length := by
        have := (List.getElem?_eq_some_iff.mp e).1
        simp at this
        omega
      rw [List.getElem?_append_left hjl] at e
      rw [if_neg hj, slot_app_left (by omega)]
      exact R.slots j b' e
  · have e : (z.e ++ [b])[j]? = none := e
    have hjl := List.getElem?_eq_none_iff.mp e
    simp at hjl
    rw [if_neg (by omega)]
    exact R.away j (List.getElem?_eq_none (by omega))
  · by_cases hj : j = z.e.length
    · rw [if_pos hj] at m
      simp at m
      subst m
      exact ⟨h0, hm, .inl hi⟩
    · rw [if_neg hj] at m; exact R.own j a m
  · by_cases hj : j = z.e.length
    · rw [if_pos hj]; simp
    · rw [if_neg hj]; exact R.nd j
  · by_cases hj : j = z.e.length <;> by_cases hk : k = z.e.length
    · rw [hj, hk]
    · rw [if_pos hj] at m
      rw [if_neg hk] at m'
      simp at m
      subst m
      exact (hf k m').elim
    · rw [if_neg hj] at m
      rw [if_pos hk] at m'
      simp at m'
      subst m'
      exact (hf j m).elim
    · rw [if_neg hj] at m
      rw [if_neg hk] at m'
      exact R.dj j k a m m'
end
def mLcGo (vs : List Nat) (t : D → Z → Option Z) (c : Mi Bool) (m : Mi D) : List D → List D → Mi (List D)
  | [], acc => mPure acc
  | d :: ds, acc => fun z => match t d (z.wipe vs) with
    | none => .no
    | some z1 => match c z1 with
      | .ok false z2 => mLcGo vs t c m ds acc z2
      | .ok true z2 => (match m z2 with
        | .ok y z3 => if acc.length < sizeLine then mLcGo vs t c m ds (acc ++ [y]) z3 else .no
        | _ => .no)
      | _ => .no
def mLc (vs : List Nat) (mi : Mi (List D)) (t : D → Z → Option Z) (c : Mi Bool) (m : Mi D) : Mi B := mBind mi fun ds z => match mLcGo vs t c m ds [] z with
  | .ok acc z' => .ok (.ml acc) ⟨backE z.e z'.e vs, z'.s⟩
  | _ => .no
section
variable {F Fb : Fam} {vs : List Nat}
theorem tbd_lc {wi : TI} {g : TG} {tt : TT} {te : TE} {mi : Mi (List D)} {t : D → Z → Option Z} {c : Mi Bool} {m : Mi D} (hK : Fb.K = F.K) (hi : TID F wi mi) (hg : TGD Fb g t) (hw : Wp vs g) (ht : TTD Fb tt c) (he : TED Fb te m) : TBD F (tLc wi g tt te vs) (mLc vs mi t c m) := by
  intro fr w σ H z fp Q R q
  refine hi fr w σ H z fp _ R ((tbd_of q).imp fun ds w1 H1 z1 fp1 R1 l1 k J ok Dd hD => ?_)
  have k := k.2.2
  cases eF : mLcGo vs t c m ds [] z1 with
  | ex _ _ => simp only [eF] at k; exact k.elim
  | no => simp only [eF] at k; exact k.elim
  | ok accF zF =>
    simp only [eF] at k
    have hI1 : fr.Hin Dd = none := R1.newIn hD
    have h01 : w1.H0 Dd = none := R1.new0 hD
    have hf1 : ∀ j, Dd ∉ fp1 j := fun j m => by
      obtain ⟨u, e⟩ := R1.slot_there m
      rw [hD] at e; cases e
    have hm1 : Dd ∉ w1.mu.flatten := fun m => by
      obtain ⟨u, e⟩ := R1.sh_there m
      rw [hD] at e; cases e
    -- the block's own stretch
    have RB : Rel F.K ⟨H1, w1, pfAt w1 fp1 (fun j => j ∉ vs)⟩ w1 (wipe σ vs) H1 (z1.wipe vs) (fun j => if j ∈ vs then [] else fp1 j) := by
      refine R1.anew (by rw [wipe_length]; show _ = (wipeE z1.e vs).length; rw [wipeE_length]; exact R1.len) (fun i hi => ⟨?_, wipe_slot hi, by rw [if_neg hi]⟩) fun i hi => ⟨fun b e => ?_, ?_⟩
      · show (wipeE z1.e vs)[i]? = _
        rw [wipeE_get, if_neg fun h => hi h.1]
      · have hi : i ∈ vs := Classical.not_not.mp hi
        have e : (wipeE z1.e vs)[i]? = some b := e
        rw [wipeE_get] at e
        by_cases hl : i < z1.e.length
        · rw [if_pos ⟨hi, hl⟩] at e; cases e; rfl
        · rw [if_neg fun h => hl h.2, List.getElem?_eq_none (by omega)] at e; cases e
      · rw [if_pos (Classical.not_not.mp hi)]
    let P : Nat → Hp → Prop := fun i H => ∃ w2 zu fp2 acc us, Rel F.K ⟨H1, w1, pfAt w1 fp1 (fun j => j ∉ vs)⟩ w2 (wipe σ vs) H (zu.wipe vs) fp2 ∧ H Dd = some (.lst us) ∧ RepL F.K w2 us acc ∧ w2.H0 Dd = none ∧ Dd ∉ w2.mu.flatten ∧ (∀ j, Dd ∉ fp2 j) ∧ w1.le w2 ∧ mLcGo vs t c m (ds.drop i) acc zu = .ok accF zF
    refine ⟨fun i n H => n = ds.length - i ∧ i ≤ ds.length ∧ P i H, ⟨ds.length, by simp, Nat.zero_le _, w1, z1, fun j => if j ∈ vs then [] else fp1 j, [], [], ?_, upd_same, .nil, h01, hm1, fun j h => ?_, World.le_refl w1, by rw [List.drop_zero]; exact eF⟩, ?_⟩
    · exact RB.poke h01 hm1 hD fun j h => by
        by_cases hj : j ∈ vs
        · rw [if_pos hj] at h; cases h
        · rw [if_neg hj] at h; exact hf1 j h
    · have h : Dd ∈ (if j ∈ vs then [] else fp1 j) := h
      by_cases hj : j ∈ vs
      · rw [if_pos hj] at h; cases h
      · rw [if_neg hj] at h; exact hf1 j h
    rintro i n H2 ⟨rfl, hil, w2, zu, fp2, acc, us, R2, hU, rU, a0, am, af, l2, eq⟩
    by_cases hlt : i < ds.length
    · -- a turn, in a stretch of its own
      have RT : Rel F.K ⟨H2, w2, pfAt w2 fp2 (fun _ => True)⟩ w2 (wipe σ vs) H2 (zu.wipe vs) fp2 := R2.anew R2.len (fun i _ => ⟨rfl, rfl, rfl⟩) fun i h => absurd True.intro h
      have npf : ¬ pfAt w2 fp2 (fun _ => True) Dd := fun h => by
        rcases h with h | ⟨j, _, h⟩
        · exact am h
        · exact af j h
      -- what a turn leaves as it was
      have keep : ∀ {w' : World} {σ' : St} {H' : Hp} {z' : Z} {fp' : Nat → List Addr}, Rel F.K ⟨H2, w2, pfAt w2 fp2 (fun _ => True)⟩ w' σ' H' z' fp' → H' Dd = some (.lst us) ∧ w'.H0 Dd = none ∧ Dd ∉ w'.mu.flatten ∧ (∀ j, Dd ∉ fp' j) := fun {w' σ' H' z' fp'} R' => by
        refine ⟨R'.frame _ _ hU npf, ?_, fun h => ?_, fun j h => ?_⟩
        · cases e : w'.H0 Dd with
          | none => rfl
          | some o =>
            rcases R'.fresh _ _ e with h | h | h
            · rw [show (⟨H2, w2, pfAt w2 fp2 (fun _ => True)⟩ : Fr).win.H0 Dd = none from a0] at h; cases h
            · rw [show (⟨H2, w2, pfAt w2 fp2 (fun _ => True)⟩ : Fr).Hin Dd = some (.lst us) from hU] at h; cases h
            · exact absurd h npf
        · rcases (R'.sh0 _ h).2 with h | h
          · rw [show (⟨H2, w2, pfAt w2 fp2 (fun _ => True)⟩ : Fr).Hin Dd = some (.lst us) from hU] at h; cases h
          · exact npf h
        · rcases (R'.own j _ h).2.2 with h | h
          · rw [show (⟨H2, w2, pfAt w2 fp2 (fun _ => True)⟩ : Fr).Hin Dd = some (.lst us) from hU] at h; cases h
          · exact npf h
      -- back to the block's stretch
      have back : ∀ {w' : World} {σ' : St} {H' : Hp} {z' : Z} {fp' : Nat → List Addr}, wipe σ' vs = wipe σ vs → Rel F.K ⟨H2, w2, pfAt w2 fp2 (fun _ => True)⟩ w' σ' H' z' fp' → ∃ fp'', Rel F.K ⟨H1, w1, pfAt w1 fp1 (fun j => j ∉ vs)⟩ w' (wipe σ vs) H' (z'.wipe vs) fp'' ∧ ∀ j, Dd ∉ fp'' j := fun {w' σ' H' z' fp'} ew R' => by
        have R3 := R2.back R' (e := z'.e) (σ2 := σ') (fp2 := fp') R'.len (fun i _ => ⟨rfl, rfl, rfl⟩) fun i h => absurd True.intro h
        refine ⟨fun j => if j ∈ vs then [] else fp' j, ?_, fun j h => ?_⟩
        · rw [← ew]
          refine R3.reslot (by rw [wipe_length]; show _ = (wipeE z'.e vs).length; rw [wipeE_length]; exact R'.len) fun i => ?_
          by_cases hi : i ∈ vs
          · refine .inr ⟨fun b e => ?_, by rw [if_pos hi]⟩
            have e : (wipeE z'.e vs)[i]? = some b := e
            rw [wipeE_get] at e
            by_cases hl : i < z'.e.length
            · rw [if_pos ⟨hi, hl⟩] at e; cases e; rfl
            · rw [if_neg fun h => hl h.2, List.getElem?_eq_none (by omega)] at e; cases e
          · refine .inl ⟨?_, wipe_slot hi, by rw [if_neg hi]⟩
            show (wipeE z'.e vs)[i]? = _
            rw [wipeE_get, if_neg fun h => hi h.1]
        · have h : Dd ∈ (if j ∈ vs then [] else fp' j) := h
          by_cases hj : j ∈ vs
          · rw [if_pos hj] at h; cases h
          · rw [if_neg hj] at h; exact (keep R').2.2.2 j h
      obtain ⟨g1, g2⟩ := (ok _ w2 (wipe σ vs) H2 (zu.wipe vs) fp2 RT l2 i).1 ds[i] (List.getElem?_eq_getElem hlt)
      refine .inr ⟨g1, P (i + 1), fun H' h => ⟨ds.length - (i + 1), by omega, rfl, hlt, h⟩, fun x H3 y => ?_⟩
      obtain ⟨w3, R3, l3, r3, _⟩ := g2 x H3 y
      rw [List.drop_eq_getElem_cons hlt] at eq
      have eq : (match t ds[i] (zu.wipe vs) with
        | none => M.R.no
        | some z1 => match c z1 with
          | .ok false z2 => mLcGo vs t c m (ds.drop (i + 1)) acc z2
          | .ok true z2 => (match m z2 with
            | .ok y z3 => if acc.length < sizeLine then mLcGo vs t c m (ds.drop (i + 1)) (acc ++ [y]) z3 else .no
            | _ => .no)
          | _ => .no) = .ok accF zF := eq
      cases e1 : t ds[i] (zu.wipe vs) with
      | none => simp only [e1] at eq; cases eq
      | some z3 =>
        simp only [e1] at eq
        refine hw x (wipe σ vs) H3 _ _ (hg _ w3 (wipe σ vs) H3 (zu.wipe vs) z3 fp2 x ds[i] (fun σ' H' => H' = H3 ∧ ∃ fp4, Rel F.K ⟨H2, w2, pfAt w2 fp2 (fun _ => True)⟩ w3 σ' H' z3 fp4) (hK ▸ R3) (hK ▸ r3) e1 fun σ4 fp4 R4 => ⟨rfl, fp4, hK ▸ R4⟩) fun σ4 H' ew ⟨eH, fp4, R4⟩ => ?_
        have ew : wipe σ4 vs = wipe σ vs := by rw [ew]; exact wipe_wipe
        subst eH
        refine ⟨ew, ?_⟩
        refine ht _ w3 σ4 H' z3 fp4 _ (hK.symm ▸ R4) ?_
        cases e2 : c z3 with
        | ex _ _ => simp only [e2] at eq; cases eq
        | no => simp only [e2] at eq; cases eq
        | ok b z5 =>
          simp only [e2] at eq
          intro w5 H5 fp5 R5 l5
          have R5 : Rel F.K ⟨H2, w2, pfAt w2 fp2 (fun _ => True)⟩ w5 σ4 H5 z5 fp5 := hK ▸ R5
          have hw5 : w2.le w5 := World.le_trans l3 l5
          cases b with
          | false =>
            rw [if_neg Bool.false_ne_true]
            obtain ⟨fp6, R6, f6⟩ := back ew R5
            obtain ⟨k1, k2, k3, _⟩ := keep R5
            exact ⟨w5, z5, fp6, acc, us, R6, k1, rU.mono hw5, k2, k3, f6, World.le_trans l2 hw5, eq⟩
          | true =>
            rw [if_pos rfl]
            refine he _ w5 σ4 H5 z5 fp5 _ (hK.symm ▸ R5) ?_
            cases e3 : m z5 with
            | ex _ _ => simp only [e3] at eq; cases eq
            | no => simp only [e3] at eq; cases eq
            | ok y z6 =>
              simp only [e3] at eq
              by_cases hsz : acc.length < sizeLine
              · rw [if_pos hsz] at eq
                intro w6 H6 fp6 R6 l6 v rv
                have R6 : Rel F.K ⟨H2, w2, pfAt w2 fp2 (fun _ => True)⟩ w6 σ4 H6 z6 fp6 := hK ▸ R6
                have rv : Rep F.K w6 v y := hK ▸ rv
                have hw6 : w2.le w6 := World.le_trans hw5 l6
                obtain ⟨k1, k2, k3, _⟩ := keep R6
                refine ⟨us, k1, by rw [rU.length]; exact hsz, ?_⟩
                obtain ⟨fp7, R7, f7⟩ := back ew R6
                exact ⟨w6, z6, fp7, acc ++ [y], us ++ [v], R7.poke k2 k3 hD f7, upd_same, (rU.mono hw6).append (.one rv), k2, k3, f7, World.le_trans l2 hw6, eq⟩
              · rw [if_neg hsz] at eq; cases eq
    · have e : i = ds.length := by omega
      subst e
      rw [List.drop_length] at eq
      cases eq
      refine .inl ⟨(ok _ w2 (wipe σ vs) H2 (zF.wipe vs) fp2 R2 l2 _).2 (by simp) rfl, ?_⟩
      have hlen : zF.e.length = z1.e.length := by
        have h1 := R2.len
        rw [wipe_length, R1.len] at h1
        have h2 : (zF.wipe vs).e.length = zF.e.length := wipeE_length zF.e vs
        omega
      have R9 := R1.back R2 (e := backE z1.e zF.e vs) (σ2 := σ) (fp2 := fun j => if j ∈ vs then fp1 j else fp2 j) (by rw [backE_length, R1.len, hlen]) (fun j hj => ⟨?_, (wipe_slot hj).symm, by rw [if_neg hj]⟩) fun j hj => ⟨?_, rfl, by rw [if_pos (Classical.not_not.mp hj)]⟩
      · refine k (.ref Dd) w2 H2 _ (R9.addBlob a0 am hI1 (fun j h => ?_) ⟨Dd, us, rfl, rfl, hU, rU⟩) l2
        have h : Dd ∈ (if j ∈ vs then fp1 j else fp2 j) := h
        by_cases hj : j ∈ vs
        · rw [if_pos hj] at h; exact hf1 j h
        · rw [if_neg hj] at h; exact af j h
      · rw [backE_get hlen.symm, if_neg hj]
        show _ = (wipeE zF.e vs)[j]?
        rw [wipeE_get, if_neg fun h => hj h.1]
      · rw [backE_get hlen.symm, if_pos (Classical.not_not.mp hj)]
end
end M
/-! ## sets of ints: from a list, from a tuple -/
namespace M
open PySem PySem.Spec PyProof.Rows L2
section
variable {P : Program} {w : PySem.World} {A : Around} {E : Value → Shared → Prop} {s : Shared}
set_option maxRecDepth 100000 in
set_option maxHeartbeats 3200000 in
theorem setLstI {l : Addr} {items : Array Value} (ns : List Int) {Q : Value → Shared → Prop} (hh : A.handled = none) (hl : s.heap.IsList l items) (hit : IntsAre items.toList ns) (hb : ns.length + 1 < scanBound)
    (h : ∀ (h' : Heap) (tk c : Nat), SetR w h' s.heap.objs.size (fun j => decide (j ∈ ns)) c → c ≤ ns.length → (∀ b o, s.heap.get? b = some o → h'.get? b = some o) → Q (.ref s.heap.objs.size) { s with heap := h', toks := tk }) :
    wpAny (model P w) A (call (.type "set") [.ref l]) Q E s := by
  have hisz : items.size = ns.length := by
    have q := IntsAre.length hit
    rw [Array.length_toList] at q
    exact q
  obtain ⟨c, tl, hmro⟩ := F.called_set.mro
  have hmade := F.called_set.made
  have hsub := F.called_set.sub
  refine wpAny_call (codeAny_of_tree ?_)
  show wpAny _ _ (callAny (.type "set") _) _ _ _
  refine wpAny_pure ⟨Code.quiet_builtin _ (by decide +kernel), codeAny_builtin F.entry_type_call ?_⟩
  rw [Around.under_plain (weight_type_call_type "set" [.ref l] []) rfl]
  have h1 := F.called_set.notType
  have h2 := F.called_set.canCreate
  have hct := F.typeCall_set_1 (.ref l)
  repeat (any_goals (first | assumption | wp_step))

  refine codeAny_mono (code_set_led1 (.ref l) (E := E) (Q₁ := fun obj s₁ => obj = .ref s.heap.objs.size ∧ s₁ = { s with heap := s.heap.push { cls := .type "set", dict := none, data := .set #[] 0 (.fresh 0 0 (!w.params.followText "set-order")) } }) ⟨rfl, rfl⟩) fun r s₁ hr => ?_
  cases r with
  | error e => exact hr
  | ok fl =>
    cases fl with
    | ret obj =>
      obtain ⟨rfl, rfl⟩ := hr
      have hS : (s.heap.push { cls := .type "set", dict := none, data := .set #[] 0 (.fresh 0 0 (!w.params.followText "set-order")) }).get? s.heap.objs.size = some { cls := .type "set", dict := none, data := .set #[] 0 (.fresh 0 0 (!w.params.followText "set-order")) } := Heap.get?_push_size _ rfl
      have hT : Shared.TypeIs { s with heap := s.heap.push { cls := .type "set", dict := none, data := .set #[] 0 (.fresh 0 0 (!w.params.followText "set-order")) } } (.ref s.heap.objs.size) "set" := ⟨_, hS, rfl⟩
      have hli := F.called_set.init.lookup
      have hbi := F.called_set.init.bind (.ref s.heap.objs.size)
      repeat (any_goals (first | assumption | wp_step))

      refine codeAny_mono (codeAny_call_builtin (R := wants (fun r s₂ => r = .none ∧ ∃ h' tk c, s₂ = { s with heap := h', toks := tk } ∧ SetR w h' s.heap.objs.size (fun j => decide (j ∈ ns)) c ∧ c ≤ ns.length ∧
          (∀ b o, s.heap.get? b = some o → h'.get? b = some o)) E) F.called_set.init.plain F.entry_set_init (check_set_init_1 hT ?_)) fun r₂ s₂ hr₂ => ?_
      · obtain ⟨ol, hol, hcl, nl, hdl⟩ := hl
        obtain ⟨ocls, odict, odata, oslots⟩ := ol
        simp only at hcl hdl
        subst hcl; subst hdl
        have hol' : (s.heap.push { cls := .type "set", dict := none, data := .set #[] 0 (.fresh 0 0 (!w.params.followText "set-order")) }).get? l = some { cls := .type "list", dict := odict, data := .seq items nl, slots := oslots } := Heap.get?_push_of_some _ hol
        have hsls := F.sub_list_set
        have hslf := F.sub_list_frozenset
        have hne : (Value.type "list" == Value.type "dict") = false := by decide
        have hl1 : (s.heap.push { cls := .type "set", dict := none, data := .set #[] 0 (.fresh 0 0 (!w.params.followText "set-order")) }).IsList l items := ⟨_, hol', rfl, nl, rfl⟩
        unfold Builtin.«set.__init__» noKeywords Builtin.Frozenset.updateFrom
        generalize hPI : pyIter = PI
        wp_walk
        subst hPI

        refine wpAny_pyIter_list hl1 ?_
        refine wpAny_bind (wpAny_runValue ?_)
        have hlS : l < s.heap.objs.size := Heap.lt_size hol
        have hh3 : A.in1.in1.in1.handled = none := by simp [hh]
        have hz1 : (s.heap.push { cls := .type "set", dict := none, data := .set #[] 0 (.fresh 0 0 (!w.params.followText "set-order")) }).objs.size = s.heap.objs.size + 1 := Heap.size_push ..
        have hneI : l ≠ (s.heap.push { cls := .type "set", dict := none, data := .set #[] 0 (.fresh 0 0 (!w.params.followText "set-order")) }).objs.size := by
          rw [Heap.size_push]; exact Nat.ne_of_lt (Nat.lt_succ_of_lt hlS)
        have hSf : s.heap.objs.size ∉ [(s.heap.push { cls := .type "set", dict := none, data := .set #[] 0 (.fresh 0 0 (!w.params.followText "set-order")) }).objs.size, l] := by
          rw [Heap.size_push]; simp only [List.mem_cons, List.mem_singleton, List.not_mem_nil, or_false, not_or]
          exact ⟨Nat.ne_of_lt (Nat.lt_succ_self _), Nat.ne_of_gt hlS⟩
        have hval : ∀ (i : Nat) (v : Value), items[i]? = some v → ∃ k t, ns[i]? = some k ∧ v = .int k t := fun i v hv => by
          have hi : i < ns.length := by rw [← hisz]; exact (Array.getElem?_eq_some_iff.mp hv).1
          obtain ⟨t, e⟩ := PyProof.Rows.IntsAre.int_at hit i v (by rw [Array.getElem?_toList]; exact hv)
          refine ⟨ns[i], t, List.getElem?_eq_getElem hi, ?_⟩
          rw [e, List.getD_eq_getElem?_getD, List.getElem?_eq_getElem hi] <;> rfl
        refine set_update_ints ((Walks.list hh3 _ l hneI items).toS) s.heap.objs.size
          hSf ns hisz hb hval (items.size - 0) 0 _ (by omega) (Nat.zero_le _)
          ⟨⟨_, Heap.get?_push_size _ rfl, rfl, rfl⟩, (hl1.push _)⟩ ?hS0 ?hR
        case hS0 =>
          have hget : ((s.heap.push { cls := .type "set", dict := none, data := .set #[] 0 (.fresh 0 0 (!w.params.followText "set-order")) }).push { cls := .type "list_iterator", data := .fields #[.ref l, .int 0 0] }).get? s.heap.objs.size
              = some { cls := .type "set", dict := none, data := .set #[] 0 (.fresh 0 0 (!w.params.followText "set-order")) } := Heap.get?_push_of_some _ hS
          exact ⟨0, Nat.le_refl 0, setR_new_at hget⟩
        case hR =>
          intro s' c' hm hc' hS'
          obtain ⟨h', g2, d', tk', os'⟩ := s'
          have eg : g2 = s.gens := hm.gens
          have ed : d' = s.drawn := hm.drawn
          have eo : os' = s.os := hm.os
          subst eg; subst ed; subst eo
          show wpAny _ _ _ _ _ _
          refine wpAny_pure ?_
          show wpAny _ _ (ret Value.none) _ _ _
          rw [hisz] at hc'
          refine wpAny_pure ⟨rfl, h', tk', c', rfl, hS', hc', fun b o e => ?_⟩
          have hb0 : b < s.heap.objs.size := Heap.lt_size e
          have hb1 : b ≠ s.heap.objs.size := Nat.ne_of_lt hb0
          have hb2 : b ≠ (s.heap.push { cls := .type "set", dict := none, data := .set #[] 0 (.fresh 0 0 (!w.params.followText "set-order")) }).objs.size := by
            rw [Heap.size_push]; exact Nat.ne_of_lt (Nat.lt_succ_of_lt hb0)
          exact hm.heap b o (by simp only [List.mem_cons, List.mem_singleton, List.not_mem_nil, or_false, not_or]; exact ⟨hb1, hb2⟩) (Heap.get?_push_of_some _ (Heap.get?_push_of_some _ e))

      · cases r₂ with
        | error e => exact hr₂
        | ok fl₂ =>
          cases fl₂ with
          | ret r =>
            obtain ⟨rfl, h', tk, c', rfl, hS', hc', hk'⟩ := hr₂
            repeat (any_goals (first | assumption | wp_step))
            exact h _ _ _ hS' hc' hk'
          | _ => exact hr₂.elim
    | _ => exact hr.elim

end
/-- each number once -/
def dd : List Int → List Int
  | [] => []
  | x :: xs => if x ∈ xs then dd xs else x :: dd xs
theorem mem_dd {k : Int} : ∀ {ns : List Int}, k ∈ dd ns ↔ k ∈ ns
  | [] => Iff.rfl
  | x :: xs => by
    unfold dd
    split
    · rename_i h
      rw [mem_dd, List.mem_cons]
      exact ⟨.inr, fun h' => h'.elim (fun e => e ▸ h) id⟩
    · rw [List.mem_cons, List.mem_cons, mem_dd]
theorem dd_nodup : ∀ (ns : List Int), (dd ns).Nodup
  | [] => List.nodup_nil
  | x :: xs => by
    unfold dd
    split
    · exact dd_nodup xs
    · rename_i h
      exact List.nodup_cons.mpr ⟨fun m => h (mem_dd.mp m), dd_nodup xs⟩
theorem dd_le : ∀ (ns : List Int), (dd ns).length ≤ ns.length
  | [] => Nat.le_refl _
  | x :: xs => by
    unfold dd
    have := dd_le xs
    split
    · rw [List.length_cons]; omega
    · rw [List.length_cons, List.length_cons]; omega
theorem nodup_le {α : Type} [DecidableEq α] : ∀ {xs ys : List α}, xs.Nodup → (∀ a ∈ xs, a ∈ ys) → xs.length ≤ ys.length
  | [], _, _, _ => Nat.zero_le _
  | x :: xs, ys, h, k => by
    obtain ⟨h1, h2⟩ := List.nodup_cons.mp h
    have hx : x ∈ ys := k x (by simp)
    have := nodup_le (xs := xs) (ys := ys.erase x) h2 fun a m => by
      rw [List.mem_erase_of_ne (fun e => h1 (by rw [← e]; exact m))]
      exact k a (List.mem_cons_of_mem _ m)
    rw [List.length_erase_of_mem hx] at this
    have : 0 < ys.length := List.length_pos_of_mem hx
    rw [List.length_cons]
    omega
theorem setR_count {w : PySem.World} {h : Heap} {a : Addr} {ns : List Int} {c : Nat} (R : SetR w h a (fun j => decide (j ∈ ns)) c) : c = (dd ns).length := by
  obtain ⟨o, es, ep, t, ho, h1, h2, h3, h4, h5, h6, h7, h8, h9, h10⟩ := R
  have e : es.size = (es.toList.map keyOf).length := by rw [List.length_map, Array.length_toList]
  rw [← h8, e]
  refine Nat.le_antisymm (nodup_le h4 fun k m => mem_dd.mpr (of_decide_eq_true ((h5 k).mpr m))) (nodup_le (dd_nodup ns) fun k m => (h5 k).mp (decide_eq_true (mem_dd.mp m)))
section
variable {X : Cx}
/-- set(xs), xs a list or a tuple of ints -/
def rSetI (K : PySem.W.Frag) (w : PySem.World) : List V → Hp → VK → Prop := fun xs H Q => ∃ (a : Addr) (ns : List Int), xs = [.ref a] ∧ (SqL K H a (ns.map .int) ∨ SqT K H a (ns.map .int)) ∧ ns.length + 1 < scanBound ∧
  ∀ p, H p = none → Q (.ref p) (upd H p (SetO w p (fun j => decide (j ∈ ns)) (dd ns).length))
theorem cr_setI (hc : X.calm = true) : CallR X (.type "set") (rSetI X.K X.w) := by
  intro pins s σ H xs us Q I r h
  obtain ⟨a, ns, rfl, hs, hb, q⟩ := h
  rw [Vals.ref1 r]
  have fin : ∀ (h' : Heap) (tk c : Nat), SetR X.w h' s.heap.objs.size (fun j => decide (j ∈ ns)) c → c ≤ ns.length → (∀ b o, s.heap.get? b = some o → h'.get? b = some o) → EP X pins σ Q (.ref s.heap.objs.size) { s with heap := h', toks := tk } := fun h' tk c R _ k => by
    have e := setR_count R
    subst e
    exact ⟨.ref _, upd H s.heap.objs.size (SetO X.w s.heap.objs.size (fun j => decide (j ∈ ns)) (dd ns).length), I.laid (t' := tk) k (Nat.le_refl _) (setO_new R), rfl, q _ (I.hok.fresh (Nat.le_refl _))⟩
  rcases hs with hs | hs
  · obtain ⟨its, r1, p1, _⟩ := I.list hs
    have i1 : IntsAre its.toArray.toList ns := intsAre_of r1
    exact setLstI ns (I.ok.hd hc) (by obtain ⟨o, n, ho, hcl, _, hd⟩ := p1; exact ⟨o, ho, hcl, n, hd⟩) i1 hb fin
  · obtain ⟨its, r1, p1, _⟩ := I.tuple hs
    have i1 : IntsAre its.toArray.toList ns := intsAre_of r1
    exact call_set_tupI ns (I.ok.hd hc) (by obtain ⟨o, ho, hcl, n, hd⟩ := p1; exact ⟨o, ho, hcl, n, hd⟩) i1 hb fin
/-- len of a set of ints -/
def rLenSet (w : PySem.World) : List V → Hp → VK → Prop := fun xs H Q => ∃ (a : Addr) (S : Int → Bool) (n : Nat), xs = [.ref a] ∧ H a = some (SetO w a S n) ∧ Q (.int n) H
theorem cr_lenSet : CallR X (.builtin "len") (rLenSet X.w) := by
  intro pins s σ H xs us Q I r h
  obtain ⟨a, S, n, rfl, ha, q⟩ := h
  have R := setO_get I ha
  rw [Vals.ref1 r]
  obtain ⟨o, es, ep, t, ho, h1, h2, h3, h4, h5, h6, h7, h8, h9, h10⟩ := R
  subst h8
  refine call_len_set ho h1 h2 h7 (by have : scanBound = 4096 := rfl; omega) ?_
  exact ⟨.int (es.size : Nat), H, (I.tok _).tok _, ⟨_, rfl⟩, q⟩
end
end M
namespace M
open PySem L2
open PyProof.Rows (envOfC)

/-! ## built-in functions of one argument -/
def CalN (F : Fam) (r : List V → Hp → VK → Prop) (g : D → Option D) : Prop := ∀ fr w σ H z fp x a d (Q : VK), Rel F.K fr w σ H z fp → RepN F.K w H x a → g a = some d →
  (∀ v w' H' fp', Rel F.K fr w' σ H' z fp' → w.le w' → Rep F.K w' v d → Q v H') → r [x] H Q
def mUn (g : D → Option D) (m : Mi D) : Mi D := mBind m fun a => mLift (g a)
/-- .. that make a new list -/
def CalB (F : Fam) (r : List V → Hp → VK → Prop) (g : D → Option (List D)) : Prop := ∀ fr w σ H z fp x a ds (Q : VK), Rel F.K fr w σ H z fp → RepN F.K w H x a → g a = some ds →
  (∀ p vs, H p = none → RepL F.K w vs ds → Q (.ref p) (upd H p (.lst vs))) → r [x] H Q
def mUnB (g : D → Option (List D)) (m : Mi D) : Mi B := mBind m fun a => mLift ((g a).map .ml)
section
variable {F : Fam} {e : Expr} {pos : Pos} {m : Mi D} {r : List V → Hp → VK → Prop} {g : D → Option D} {gb : D → Option (List D)} {x : Str} {p : Pos} {bid T : String}
theorem ted_cb {te : TE} (hr : CalN F r g) (h : TND F te m) : TED F (tCB r (tCons te tNil)) (mUn g m) := fun fr w σ H z fp Q R q => by
  refine h fr w σ H z fp _ R (q.cut.imp fun a w1 H1 z1 fp1 R1 l1 k v r1 => ?_)
  have k := k.2.2
  cases e : g a with
  | none => rw [e] at k; exact k.elim
  | some d =>
    rw [e] at k
    exact hr fr w1 σ H1 z1 fp1 v a d Q R1 r1 e fun v' w' H' fp' R' l' rv => k w' H' fp' R' l' v' rv
theorem tbd_cb {te : TE} (hr : CalB F r gb) (h : TND F te m) : TBD F (tCB r (tCons te tNil)) (mUnB gb m) := fun fr w σ H z fp Q R q => by
  refine h fr w σ H z fp _ R ((tbd_of q).imp fun a w1 H1 z1 fp1 R1 l1 k v r1 => ?_)
  have k := k.2.2
  cases e : gb a with
  | none => rw [e] at k; exact k.elim
  | some ds =>
    rw [e] at k
    exact hr fr w1 σ H1 z1 fp1 v a ds Q R1 r1 e fun p vs hp rv => k _ _ _ _ (R1.newList hp rv) (World.le_refl _)
theorem pe_cb1 {X : Cx} {te : TE} (hX : F.C X) (hc : CallR X (.builtin bid) r) (h1 : PE X e te) (hm : F.mg x = none) (hv : bootBuiltins x = some (.builtin bid)) (hg : F.sc.names.lookup x = some .globalImplicit) (hn : x ≠ "__name__") (hdb : (x == ("__debug__" : Str)) = false)
    (hs : ∀ env, starEach [e] env = (false, eval e env) :: starEach [] env) : PE X (.Call (.Name x p) [e] [] pos) (tCB r (tCons te tNil)) := by
  obtain ⟨e1, e2, e3, e4, e5, e6, e7, e8⟩ := F.eqs X hX
  exact pe_callB hc (by show X.env.scope.names.lookup _ = _; rw [e7]; exact hg) (by rw [e4]; exact hm) hv (pa_cons h1 pa_nil (hs X.env)) hn hdb (hs X.env) rfl
theorem pe_ct1 {X : Cx} {te : TE} (hX : F.C X) (hc : CallR X (.type T) r) (h1 : PE X e te) (hm : F.mg x = none) (hv : bootBuiltins x = some (.type T)) (hg : F.sc.names.lookup x = some .globalImplicit) (hn : x ≠ "__name__") (hdb : (x == ("__debug__" : Str)) = false)
    (hs : ∀ env, starEach [e] env = (false, eval e env) :: starEach [] env) : PE X (.Call (.Name x p) [e] [] pos) (tCB r (tCons te tNil)) := by
  obtain ⟨e1, e2, e3, e4, e5, e6, e7, e8⟩ := F.eqs X hX
  exact pe_callTy hc (by show X.env.scope.names.lookup _ = _; rw [e7]; exact hg) (by rw [e4]; exact hm) hv (pa_cons h1 pa_nil (hs X.env)) hn hdb (hs X.env) rfl
theorem se_cb1 (hc : ∀ X, F.C X → CallR X (.builtin bid) r) (hr : CalN F r g) (h : SN F e m) (hm : F.mg x = none) (hv : bootBuiltins x = some (.builtin bid)) (hg : F.sc.names.lookup x = some .globalImplicit) (hn : x ≠ "__name__") (hdb : (x == ("__debug__" : Str)) = false) (hs : ∀ env, starEach [e] env = (false, eval e env) :: starEach [] env) :
    SE F (.Call (.Name x p) [e] [] pos) (mUn g m) := by
  obtain ⟨te, h1, h2⟩ := h.ex
  exact ⟨_, fun X hX => pe_cb1 hX (hc X hX) (h1 X hX) hm hv hg hn hdb hs, ted_cb hr h2⟩
theorem se_ct1 (hc : ∀ X, F.C X → CallR X (.type T) r) (hr : CalN F r g) (h : SN F e m) (hm : F.mg x = none) (hv : bootBuiltins x = some (.type T)) (hg : F.sc.names.lookup x = some .globalImplicit) (hn : x ≠ "__name__") (hdb : (x == ("__debug__" : Str)) = false) (hs : ∀ env, starEach [e] env = (false, eval e env) :: starEach [] env) :
    SE F (.Call (.Name x p) [e] [] pos) (mUn g m) := by
  obtain ⟨te, h1, h2⟩ := h.ex
  exact ⟨_, fun X hX => pe_ct1 hX (hc X hX) (h1 X hX) hm hv hg hn hdb hs, ted_cb hr h2⟩
theorem sb_cb1 (hc : ∀ X, F.C X → CallR X (.builtin bid) r) (hr : CalB F r gb) (h : SN F e m) (hm : F.mg x = none) (hv : bootBuiltins x = some (.builtin bid)) (hg : F.sc.names.lookup x = some .globalImplicit) (hn : x ≠ "__name__") (hdb : (x == ("__debug__" : Str)) = false) (hs : ∀ env, starEach [e] env = (false, eval e env) :: starEach [] env) :
    SB F (.Call (.Name x p) [e] [] pos) (mUnB gb m) := by
  obtain ⟨te, h1, h2⟩ := h.ex
  exact ⟨_, fun X hX => pe_cb1 hX (hc X hX) (h1 X hX) hm hv hg hn hdb hs, tbd_cb hr h2⟩
theorem sb_ct1 (hc : ∀ X, F.C X → CallR X (.type T) r) (hr : CalB F r gb) (h : SN F e m) (hm : F.mg x = none) (hv : bootBuiltins x = some (.type T)) (hg : F.sc.names.lookup x = some .globalImplicit) (hn : x ≠ "__name__") (hdb : (x == ("__debug__" : Str)) = false) (hs : ∀ env, starEach [e] env = (false, eval e env) :: starEach [] env) :
    SB F (.Call (.Name x p) [e] [] pos) (mUnB gb m) := by
  obtain ⟨te, h1, h2⟩ := h.ex
  exact ⟨_, fun X hX => pe_ct1 hX (hc X hX) (h1 X hX) hm hv hg hn hdb hs, tbd_cb hr h2⟩
/-! ### len, tuple, list, int -/
def gLen : D → Option D
  | .str s => if s.length ≤ sizeLine then some (.int s.length) else none
  | d => (items d).map fun ds => .int ds.length
theorem se_len (h : SN F e m) (hm : F.mg ("len" : Str) = none) (hg : F.sc.names.lookup ("len" : Str) = some .globalImplicit := by rfl) (hs : ∀ env, starEach [e] env = (false, eval e env) :: starEach [] env := by intro _; rfl) : SE F (.Call (.Name ("len" : Str) p) [e] [] pos) (mUn gLen m) :=
  se_cb1 (r := fun xs H Q => ∃ x n, xs = [x] ∧ LenV F.K x H n ∧ Q (.int n) H) (fun X hX => by have := call_len (X := X); rw [F_K hX] at this; exact this) (fun fr w σ H z fp x a d Q R ra e q => by
    unfold gLen at e
    split at e
    · rename_i s
      split at e
      · rename_i hs
        cases e
        exact ⟨_, _, rfl, by rw [ra.str]; exact ⟨hs, rfl⟩, q _ w H fp R (World.le_refl w) (.int _)⟩
      · cases e
    · cases e1 : items a with
      | none => rw [e1] at e; cases e
      | some ds =>
        rw [e1] at e
        cases e
        obtain ⟨p, vs, rfl, s, rv⟩ := ra.seq R e1
        refine ⟨_, ds.length, rfl, ?_, q _ w H fp R (World.le_refl w) (.int _)⟩
        rcases s with s | s
        · exact .inl ⟨vs, s, rv.length.symm⟩
        · exact .inr ⟨vs, s, rv.length.symm⟩) h hm PySem.boot_len hg (by decide) (by decide) hs
def gTuple (a : D) : Option D := (items a).map .tup
theorem se_tuple (h : SN F e m) (hm : F.mg ("tuple" : Str) = none) (hg : F.sc.names.lookup ("tuple" : Str) = some .globalImplicit := by rfl) (hs : ∀ env, starEach [e] env = (false, eval e env) :: starEach [] env := by intro _; rfl) : SE F (.Call (.Name ("tuple" : Str) p) [e] [] pos) (mUn gTuple m) :=
  se_ct1 (r := fun xs H Q => ∃ p ys, xs = [.ref p] ∧ ((SqL F.K H p ys ∧ ∀ l, H l = none → Q (.ref l) (upd H l (.tup ys))) ∨ (SqT F.K H p ys ∧ Q (.ref p) H))) (fun X hX => by have := call_tuple_of (X := X); rw [F_K hX] at this; exact this) (fun fr w σ H z fp x a d Q R ra e q => by
    unfold gTuple at e
    have lst : ∀ {p : Addr} {vs : List V} {ds : List D}, SqL F.K H p vs → RepL F.K w vs ds → some (D.tup ds) = some d → ∃ p' ys, [V.ref p] = [.ref p'] ∧ ((SqL F.K H p' ys ∧ ∀ l, H l = none → Q (.ref l) (upd H l (.tup ys))) ∨ (SqT F.K H p' ys ∧ Q (.ref p') H)) := fun {p vs ds} s rv e => by
      cases e
      refine ⟨p, vs, rfl, .inl ⟨s, fun l hl => ?_⟩⟩
      obtain ⟨b1, b2, b3⟩ := R.putT hl rv
      exact q _ _ _ fp b1 b2 b3
    cases a with
    | tup ds =>
      cases e
      obtain ⟨p, vs, rfl, s, rv⟩ := ra.tup R
      cases ra with
      | of ra => exact ⟨p, vs, rfl, .inr ⟨s, q _ w H fp R (World.le_refl w) ra⟩⟩
    | lst ds =>
      obtain ⟨p, vs, rfl, s, rv⟩ := ra.lst R
      exact lst (.inl (.inl s)) rv e
    | fz ds =>
      obtain ⟨p, vs, rfl, s, rv⟩ := ra.fz R
      exact lst s rv e
    | _ => cases e) h hm PyProof.Rows.boot_tuple hg (by decide) (by decide) hs
theorem sb_list (h : SN F e m) (hm : F.mg ("list" : Str) = none) (hg : F.sc.names.lookup ("list" : Str) = some .globalImplicit := by rfl) (hs : ∀ env, starEach [e] env = (false, eval e env) :: starEach [] env := by intro _; rfl) : SB F (.Call (.Name ("list" : Str) p) [e] [] pos) (mUnB items m) :=
  sb_ct1 (r := fun xs H Q => ∃ p ys, xs = [.ref p] ∧ (SqL F.K H p ys ∨ SqT F.K H p ys) ∧ ∀ l, H l = none → Q (.ref l) (upd H l (.lst ys))) (fun X hX => by have := call_list_of (X := X); rw [F_K hX] at this; exact this) (fun fr w σ H z fp x a ds Q R ra e q => by
    obtain ⟨p, vs, rfl, s, rv⟩ := ra.seq R e
    exact ⟨p, vs, rfl, s, fun l hl => q l vs hl rv⟩) h hm PyProof.Rows.boot_list hg (by decide) (by decide) hs
def gInt : D → Option D
  | .int i => some (.int i)
  | .bl b => some (.int (if b then 1 else 0))
  | _ => none
theorem se_intc (h : SN F e m) (hm : F.mg ("int" : Str) = none) (hg : F.sc.names.lookup ("int" : Str) = some .globalImplicit := by rfl) (hs : ∀ env, starEach [e] env = (false, eval e env) :: starEach [] env := by intro _; rfl) : SE F (.Call (.Name ("int" : Str) p) [e] [] pos) (mUn gInt m) :=
  se_ct1 (fun X hX => call_int1) (fun fr w σ H z fp x a d Q R ra e q => by
    cases a with
    | int i => cases e; exact .inl ⟨i, by rw [ra.int], q _ w H fp R (World.le_refl w) (.int _)⟩
    | bl b => cases e; exact .inr ⟨b, by rw [ra.bl], q _ w H fp R (World.le_refl w) (.int _)⟩
    | _ => cases e) h hm PyProof.Rows.boot_int hg (by decide) (by decide) hs
/-! ### over lists of ints and of truths -/
def toI : D → Option Int
  | .int i => some i
  | _ => none
def toIs : List D → Option (List Int)
  | [] => some []
  | d :: ds => match toI d, toIs ds with
    | some i, some is => some (i :: is)
    | _, _ => none
def toBs : List D → Option (List Bool)
  | [] => some []
  | d :: ds => match toB d, toBs ds with
    | some i, some is => some (i :: is)
    | _, _ => none
theorem toIs_map : ∀ {ds : List D} {ns : List Int}, toIs ds = some ns → ds = ns.map .int
  | [], _, e => by cases e; rfl
  | d :: ds, ns, e => by
    unfold toIs at e
    split at e
    · rename_i i is e1 e2
      cases e
      rw [List.map_cons, ← toIs_map e2]
      cases d <;> first | (cases e1; rfl) | cases e1
    · cases e
theorem toBs_map : ∀ {ds : List D} {ns : List Bool}, toBs ds = some ns → ds = ns.map .bl
  | [], _, e => by cases e; rfl
  | d :: ds, ns, e => by
    unfold toBs at e
    split at e
    · rename_i i is e1 e2
      cases e
      rw [List.map_cons, ← toBs_map e2]
      cases d <;> first | (cases e1; rfl) | cases e1
    · cases e
/-- the list of ints that a list is -/
def lstI : D → Option (List Int)
  | .lst ds => toIs ds
  | _ => none
def lstB : D → Option (List Bool)
  | .lst ds => toBs ds
  | _ => none
section
variable {K : PySem.W.Frag} {fr : Fr} {w : World} {σ : St} {H : Hp} {z : Z} {fp : Nat → List Addr} {v : V} {a : D}
theorem RepN.lstI (R : Rel K fr w σ H z fp) {ns : List Int} (h : RepN K w H v a) (e : M.lstI a = some ns) : ∃ p, v = .ref p ∧ SqL K H p (ns.map .int) := by
  cases a with
  | lst ds =>
    obtain ⟨p, vs, rfl, s, rv⟩ := h.lst R
    have := toIs_map (show toIs ds = some ns from e)
    subst this
    rw [rv.ints] at s
    exact ⟨p, rfl, .inl (.inl s)⟩
  | _ => cases e
theorem RepN.lstB (R : Rel K fr w σ H z fp) {ns : List Bool} (h : RepN K w H v a) (e : M.lstB a = some ns) : ∃ p, v = .ref p ∧ SqL K H p (ns.map .bl) := by
  cases a with
  | lst ds =>
    obtain ⟨p, vs, rfl, s, rv⟩ := h.lst R
    have := toBs_map (show toBs ds = some ns from e)
    subst this
    rw [rv.bls] at s
    exact ⟨p, rfl, .inl (.inl s)⟩
  | _ => cases e
end
def gSum (a : D) : Option D := (lstI a).map fun ns => .int ns.sum
theorem se_sum (h : SN F e m) (hm : F.mg ("sum" : Str) = none) (hc : F.cal = true := by rfl) (hg : F.sc.names.lookup ("sum" : Str) = some .globalImplicit := by rfl) (hs : ∀ env, starEach [e] env = (false, eval e env) :: starEach [] env := by intro _; rfl) : SE F (.Call (.Name ("sum" : Str) p) [e] [] pos) (mUn gSum m) :=
  se_cb1 (r := rSum F.K) (fun X hX => by have := cr_sum (F.calm X hX hc); rw [F_K hX] at this; exact this) (fun fr w σ H z fp x a d Q R ra e q => by
    unfold gSum at e
    cases e1 : lstI a with
    | none => rw [e1] at e; cases e
    | some ns =>
      rw [e1] at e
      cases e
      obtain ⟨p, rfl, s⟩ := ra.lstI R e1
      exact ⟨p, ns, rfl, s, q _ w H fp R (World.le_refl w) (.int _)⟩) h hm PyProof.Rows.boot_sum hg (by decide) (by decide) hs
def gAll (a : D) : Option D := (lstB a).map fun bs => .bl (bs.all id)
theorem se_all (h : SN F e m) (hm : F.mg ("all" : Str) = none) (hc : F.cal = true := by rfl) (hg : F.sc.names.lookup ("all" : Str) = some .globalImplicit := by rfl) (hs : ∀ env, starEach [e] env = (false, eval e env) :: starEach [] env := by intro _; rfl) : SE F (.Call (.Name ("all" : Str) p) [e] [] pos) (mUn gAll m) :=
  se_cb1 (r := rAll F.K) (fun X hX => by have := cr_all (F.calm X hX hc); rw [F_K hX] at this; exact this) (fun fr w σ H z fp x a d Q R ra e q => by
    unfold gAll at e
    cases e1 : lstB a with
    | none => rw [e1] at e; cases e
    | some ns =>
      rw [e1] at e
      cases e
      obtain ⟨p, rfl, s⟩ := ra.lstB R e1
      exact ⟨p, ns, rfl, s, q _ w H fp R (World.le_refl w) (.bl _)⟩) h hm PyProof.Rows.boot_all hg (by decide) (by decide) hs
def gAny (a : D) : Option D := (lstB a).map fun bs => .bl (bs.any id)
theorem se_any (h : SN F e m) (hm : F.mg ("any" : Str) = none) (hc : F.cal = true := by rfl) (hg : F.sc.names.lookup ("any" : Str) = some .globalImplicit := by rfl) (hs : ∀ env, starEach [e] env = (false, eval e env) :: starEach [] env := by intro _; rfl) : SE F (.Call (.Name ("any" : Str) p) [e] [] pos) (mUn gAny m) :=
  se_cb1 (r := rAny F.K) (fun X hX => by have := cr_any (F.calm X hX hc); rw [F_K hX] at this; exact this) (fun fr w σ H z fp x a d Q R ra e q => by
    unfold gAny at e
    cases e1 : lstB a with
    | none => rw [e1] at e; cases e
    | some ns =>
      rw [e1] at e
      cases e
      obtain ⟨p, rfl, s⟩ := ra.lstB R e1
      exact ⟨p, ns, rfl, s, q _ w H fp R (World.le_refl w) (.bl _)⟩) h hm PyProof.Rows.boot_any hg (by decide) (by decide) hs
/-- the greatest, the least -/
def maxI : List Int → Option Int
  | [] => none
  | x :: xs => some (xs.foldl (fun a b => if a < b then b else a) x)
def minI : List Int → Option Int
  | [] => none
  | x :: xs => some (xs.foldl (fun a b => if b < a then b else a) x)
theorem foldMax (xs : List Int) : ∀ x : Int, (xs.foldl (fun a b => if a < b then b else a) x ∈ x :: xs) ∧ ∀ y ∈ x :: xs, y ≤ xs.foldl (fun a b => if a < b then b else a) x := by
  induction xs with
  | nil => intro x; simp
  | cons a as ih =>
    intro x
    rw [List.foldl_cons]
    by_cases hxa : x < a
    · rw [if_pos hxa]
      obtain ⟨h1, h2⟩ := ih a
      refine ⟨List.mem_cons_of_mem _ h1, fun y hy => ?_⟩
      rcases List.mem_cons.mp hy with rfl | hy
      · have := h2 a List.mem_cons_self
        omega
      · exact h2 y hy
    · rw [if_neg hxa]
      obtain ⟨h1, h2⟩ := ih x
      refine ⟨?_, fun y hy => ?_⟩
      · rcases List.mem_cons.mp h1 with h | h
        · rw [h]; simp
        · exact List.mem_cons_of_mem _ (List.mem_cons_of_mem _ h)
      · rcases List.mem_cons.mp hy with rfl | hy
        · exact h2 _ List.mem_cons_self
        · rcases List.mem_cons.mp hy with rfl | hy
          · have := h2 x List.mem_cons_self
            omega
          · exact h2 y (List.mem_cons_of_mem _ hy)
theorem foldMin (xs : List Int) : ∀ x : Int, (xs.foldl (fun a b => if b < a then b else a) x ∈ x :: xs) ∧ ∀ y ∈ x :: xs, xs.foldl (fun a b => if b < a then b else a) x ≤ y := by
  induction xs with
  | nil => intro x; simp
  | cons a as ih =>
    intro x
    rw [List.foldl_cons]
    by_cases hxa : a < x
    · rw [if_pos hxa]
      obtain ⟨h1, h2⟩ := ih a
      refine ⟨List.mem_cons_of_mem _ h1, fun y hy => ?_⟩
      rcases List.mem_cons.mp hy with rfl | hy
      · have := h2 a List.mem_cons_self
        omega
      · exact h2 y hy
    · rw [if_neg hxa]
      obtain ⟨h1, h2⟩ := ih x
      refine ⟨?_, fun y hy => ?_⟩
      · rcases List.mem_cons.mp h1 with h | h
        · rw [h]; simp
        · exact List.mem_cons_of_mem _ (List.mem_cons_of_mem _ h)
      · rcases List.mem_cons.mp hy with rfl | hy
        · exact h2 _ List.mem_cons_self
        · rcases List.mem_cons.mp hy with rfl | hy
          · have := h2 x List.mem_cons_self
            omega
          · exact h2 y (List.mem_cons_of_mem _ hy)
theorem maxI_mem {ns : List Int} {m : Int} (h : maxI ns = some m) : m ∈ ns ∧ ∀ y ∈ ns, y ≤ m := by
  cases ns with
  | nil => cases h
  | cons x xs => cases h; exact foldMax xs x
theorem minI_mem {ns : List Int} {m : Int} (h : minI ns = some m) : m ∈ ns ∧ ∀ y ∈ ns, m ≤ y := by
  cases ns with
  | nil => cases h
  | cons x xs => cases h; exact foldMin xs x
def gMax (a : D) : Option D := ((lstI a).bind maxI).map .int
def gMin (a : D) : Option D := ((lstI a).bind minI).map .int
theorem se_max (h : SN F e m) (hm : F.mg ("max" : Str) = none) (hc : F.cal = true := by rfl) (hg : F.sc.names.lookup ("max" : Str) = some .globalImplicit := by rfl) (hs : ∀ env, starEach [e] env = (false, eval e env) :: starEach [] env := by intro _; rfl) : SE F (.Call (.Name ("max" : Str) p) [e] [] pos) (mUn gMax m) :=
  se_cb1 (r := rMax F.K) (fun X hX => by have := cr_max (F.calm X hX hc); rw [F_K hX] at this; exact this) (fun fr w σ H z fp x a d Q R ra e q => by
    unfold gMax at e
    cases e1 : lstI a with
    | none => rw [e1] at e; cases e
    | some ns =>
      rw [e1] at e
      have e : (maxI ns).map D.int = some d := e
      cases e2 : maxI ns with
      | none => rw [e2] at e; cases e
      | some mx =>
        rw [e2] at e
        cases e
        obtain ⟨p, rfl, s⟩ := ra.lstI R e1
        obtain ⟨m1, m2⟩ := maxI_mem e2
        refine ⟨p, ns, rfl, s, List.length_pos_of_mem m1, fun m' h1 h2 => ?_⟩
        have : m' = mx := Int.le_antisymm (m2 m' h1) (h2 mx m1)
        subst this
        exact q _ w H fp R (World.le_refl w) (.int _)) h hm PyProof.Rows.boot_max hg (by decide) (by decide) hs
theorem se_min (h : SN F e m) (hm : F.mg ("min" : Str) = none) (hc : F.cal = true := by rfl) (hg : F.sc.names.lookup ("min" : Str) = some .globalImplicit := by rfl) (hs : ∀ env, starEach [e] env = (false, eval e env) :: starEach [] env := by intro _; rfl) : SE F (.Call (.Name ("min" : Str) p) [e] [] pos) (mUn gMin m) :=
  se_cb1 (r := rMin F.K) (fun X hX => by have := cr_min (F.calm X hX hc); rw [F_K hX] at this; exact this) (fun fr w σ H z fp x a d Q R ra e q => by
    unfold gMin at e
    cases e1 : lstI a with
    | none => rw [e1] at e; cases e
    | some ns =>
      rw [e1] at e
      have e : (minI ns).map D.int = some d := e
      cases e2 : minI ns with
      | none => rw [e2] at e; cases e
      | some mx =>
        rw [e2] at e
        cases e
        obtain ⟨p, rfl, s⟩ := ra.lstI R e1
        obtain ⟨m1, m2⟩ := minI_mem e2
        refine ⟨p, ns, rfl, s, List.length_pos_of_mem m1, fun m' h1 h2 => ?_⟩
        have : m' = mx := Int.le_antisymm (h2 mx m1) (m2 m' h1)
        subst this
        exact q _ w H fp R (World.le_refl w) (.int _)) h hm PyProof.Rows.boot_min hg (by decide) (by decide) hs
end
end M
namespace M
open PySem L2
open PyProof.Rows (envOfC)
section
variable {F : Fam} {e : Expr} {pos : Pos} {m : Mi D} {x : Str} {p : Pos}
/-! ## isinstance -/
def isTy (T : String) : D → Option Bool
  | .non => some (T == "NoneType")
  | .bl _ => some (T == "bool" || T == "int")
  | .int _ => some (T == "int")
  | .str _ => some (T == "str")
  | .tup _ => some (T == "tuple")
  | .lst _ => some (T == "list")
  | .fz _ => none
  | .dic _ _ => some (T == "dict")
  | .ref _ => none
def gIsi (T : String) (d : D) : Option D := (isTy T d).map .bl
/-- the types that are asked -/
def known (T : String) : Bool := T == "int" || T == "bool" || T == "str" || T == "tuple" || T == "list" || T == "dict"
theorem kit_all {T : String} (h : known T = true) : kitB "NoneType" T = some (T == "NoneType") ∧ kitB "bool" T = some (T == "bool" || T == "int") ∧ kitB "int" T = some (T == "int") ∧ kitB "str" T = some (T == "str") ∧ kitB "tuple" T = some (T == "tuple") ∧ kitB "list" T = some (T == "list") ∧ kitB "dict" T = some (T == "dict") := by
  unfold known at h
  simp only [Bool.or_eq_true, beq_iff_eq] at h
  rcases h with ((((rfl | rfl) | rfl) | rfl) | rfl) | rfl <;> decide +kernel
theorem tyx_of {K : PySem.W.Frag} {fr : Fr} {w : World} {σ : St} {H : Hp} {z : Z} {fp : Nat → List Addr} {v : V} {d : D} {T : String} {b : Bool} (R : Rel K fr w σ H z fp) (r : RepN K w H v d) (hT : known T = true) (h : isTy T d = some b) : ∃ t, TyX K H v (.type t) ∧ kitB t T = some b := by
  obtain ⟨k1, k2, k3, k4, k5, k6, k7⟩ := kit_all hT
  cases d with
  | non => cases h; cases r.non; exact ⟨_, .base .non, k1⟩
  | bl c => cases h; cases r.bl; exact ⟨_, .base (.bl c), k2⟩
  | int i => cases h; cases r.int; exact ⟨_, .base (.int i), k3⟩
  | str s => cases h; cases r.str; exact ⟨_, .base (.str s), k4⟩
  | tup ds =>
    cases h
    obtain ⟨a, vs, rfl, s, _⟩ := r.tup R
    refine ⟨"tuple", ?_, k5⟩
    rcases s with (s | ⟨o, s⟩) | ⟨o, its, n, q1, q2, _⟩
    · exact .base (.tup s)
    · exact .fTuple s
    · exact .kTuple q1 q2
  | lst ds => cases h; obtain ⟨a, vs, rfl, s, _⟩ := r.lst R; exact ⟨_, .base (.lst s), k6⟩
  | dic ks ds => cases h; obtain ⟨a, kvs, rfl, s, _⟩ := r.dic R; exact ⟨_, .base (.dK s), k7⟩
  | fz _ => cases h
  | ref _ => cases h
theorem se_isi {T : String} {tn : Str} {p2 : Pos} (h : SE F e m) (hm : F.mg ("isinstance" : Str) = none) (hT : F.mg tn = none) (hv : bootBuiltins tn = some (.type T)) (hk : known T = true := by rfl) (hg : F.sc.names.lookup ("isinstance" : Str) = some .globalImplicit := by rfl) (hg2 : F.sc.names.lookup tn = some .globalImplicit := by rfl)
    (hn2 : tn ≠ "__name__" := by decide) (hdb2 : (tn == ("__debug__" : Str)) = false := by decide) (hs : ∀ env, starEach [e, .Name tn p2] env = (false, eval e env) :: starEach [.Name tn p2] env := by intro _; rfl) :
    SE F (.Call (.Name ("isinstance" : Str) p) [e, .Name tn p2] [] pos) (mUn (gIsi T) m) := by
  obtain ⟨te, h1, h2⟩ := h.ex
  refine ⟨tCB (rIsi F.K) (tCons te (tCons (tC (.ty T)) tNil)), fun X hX => ?_, fun fr w σ H z fp Q R q => ?_⟩
  · obtain ⟨e1, e2, e3, e4, e5, e6, e7, e8⟩ := F.eqs X hX
    have hc := call_isi (X := X)
    rw [e3] at hc
    exact pe_callB hc (by show X.env.scope.names.lookup _ = _; rw [e7]; exact hg) (by rw [e4]; exact hm) PyProof.Rows.boot_isinstance
      (pa_cons (h1 X hX) (pa_cons (pe_bltn (v := .ty T) (by show X.env.scope.names.lookup _ = _; rw [e7]; exact hg2) (by rw [e4]; exact hT) hv rfl hn2 hdb2) pa_nil rfl) (hs X.env)) (by decide) (by decide) (hs X.env) rfl
  · refine h2 fr w σ H z fp _ R (q.cut.imp fun a w1 H1 z1 fp1 R1 l1 k v r1 => ?_)
    have k := k.2.2
    cases eg : gIsi T a with
    | none => rw [eg] at k; exact k.elim
    | some d =>
      rw [eg] at k
      unfold gIsi at eg
      cases e1 : isTy T a with
      | none => rw [e1] at eg; cases eg
      | some b =>
        rw [e1] at eg
        cases eg
        obtain ⟨t, t1, t2⟩ := tyx_of R1 (.of r1) hk e1
        exact ⟨v, .ty T, .type t, .type T, b, rfl, .ty T, t1, kit_ty t2, k w1 H1 fp1 R1 (World.le_refl w1) _ (.bl b)⟩
/-! ## min, max of two -/
def mBin (g : D → D → Option D) (ma mb : Mi D) : Mi D := mBind ma fun a => mBind mb fun b => mLift (g a b)
def gMin2 : D → D → Option D := gI fun i j => .int (if j < i then j else i)
def gMax2 : D → D → Option D := gI fun i j => .int (if j > i then j else i)
theorem se_cb2 {bid : String} {e' : Expr} {m' : Mi D} {f : Int → Int → Int} (hc : ∀ X, F.C X → CallR X (.builtin bid) (fun xs H Q => ∃ i j, xs = [.int i, .int j] ∧ Q (.int (f i j)) H)) (h : SE F e m) (h' : SE F e' m') (hm : F.mg x = none) (hv : bootBuiltins x = some (.builtin bid)) (hg : F.sc.names.lookup x = some .globalImplicit) (hn : x ≠ "__name__") (hdb : (x == ("__debug__" : Str)) = false)
    (hs : ∀ env, starEach [e, e'] env = (false, eval e env) :: starEach [e'] env) (hs2 : ∀ env, starEach [e'] env = (false, eval e' env) :: starEach [] env) :
    SE F (.Call (.Name x p) [e, e'] [] pos) (mBin (gI fun i j => .int (f i j)) m m') := by
  obtain ⟨te, h1, h2⟩ := h.ex
  obtain ⟨te', k1, k2⟩ := h'.ex
  refine ⟨tCB (fun xs H Q => ∃ i j, xs = [.int i, .int j] ∧ Q (.int (f i j)) H) (tCons te (tCons te' tNil)), fun X hX => ?_, fun fr w σ H z fp Q R q => ?_⟩
  · obtain ⟨e1, e2, e3, e4, e5, e6, e7, e8⟩ := F.eqs X hX
    exact pe_callB (hc X hX) (by show X.env.scope.names.lookup _ = _; rw [e7]; exact hg) (by rw [e4]; exact hm) hv (pa_cons (h1 X hX) (pa_cons (k1 X hX) pa_nil (hs2 X.env)) (hs X.env)) hn hdb (hs X.env) (by rw [hs2]; rfl)
  · refine h2 fr w σ H z fp _ R (q.cut.imp fun a w1 H1 z1 fp1 R1 l1 k v r1 => ?_)
    refine k2 fr w1 σ H1 z1 fp1 _ R1 (k.2.2.cut.imp fun b w2 H2 z2 fp2 R2 l2 k v' r2 => ?_)
    have k := k.2.2
    cases a with
    | int i =>
      cases b with
      | int j => cases r1; cases r2; exact ⟨i, j, rfl, k w2 H2 fp2 R2 (World.le_refl w2) _ (.int _)⟩
      | _ => exact k.elim
    | _ => exact k.elim
theorem se_min2 {e' : Expr} {m' : Mi D} (h : SE F e m) (h' : SE F e' m') (hm : F.mg ("min" : Str) = none) (hc : F.cal = true := by rfl) (hg : F.sc.names.lookup ("min" : Str) = some .globalImplicit := by rfl)
    (hs : ∀ env, starEach [e, e'] env = (false, eval e env) :: starEach [e'] env := by intro _; rfl) (hs2 : ∀ env, starEach [e'] env = (false, eval e' env) :: starEach [] env := by intro _; rfl) : SE F (.Call (.Name ("min" : Str) p) [e, e'] [] pos) (mBin gMin2 m m') :=
  se_cb2 (fun X hX => call_min2 (F.calm X hX hc)) h h' hm PyProof.Rows.boot_min hg (by decide) (by decide) hs hs2
theorem se_max2 {e' : Expr} {m' : Mi D} (h : SE F e m) (h' : SE F e' m') (hm : F.mg ("max" : Str) = none) (hc : F.cal = true := by rfl) (hg : F.sc.names.lookup ("max" : Str) = some .globalImplicit := by rfl)
    (hs : ∀ env, starEach [e, e'] env = (false, eval e env) :: starEach [e'] env := by intro _; rfl) (hs2 : ∀ env, starEach [e'] env = (false, eval e' env) :: starEach [] env := by intro _; rfl) : SE F (.Call (.Name ("max" : Str) p) [e, e'] [] pos) (mBin gMax2 m m') :=
  se_cb2 (fun X hX => call_max2 (F.calm X hX hc)) h h' hm PyProof.Rows.boot_max hg (by decide) (by decide) hs hs2
/-! ## sorted, sets -/
def ins (x : Int) : List Int → List Int
  | [] => [x]
  | y :: ys => if x ≤ y then x :: y :: ys else y :: ins x ys
def isort : List Int → List Int
  | [] => []
  | x :: xs => ins x (isort xs)
theorem ins_perm (x : Int) : ∀ ys, (ins x ys).Perm (x :: ys)
  | [] => .refl _
  | y :: ys => by
    unfold ins
    split
    · exact .refl _
    · exact ((ins_perm x ys).cons y).trans (List.Perm.swap x y ys)
theorem isort_perm : ∀ xs, (isort xs).Perm xs
  | [] => .refl _
  | x :: xs => (ins_perm x _).trans ((isort_perm xs).cons x)
theorem ins_sorted (x : Int) : ∀ ys : List Int, ys.Pairwise (· ≤ ·) → (ins x ys).Pairwise (· ≤ ·)
  | [], _ => by unfold ins; simp
  | y :: ys, h => by
    unfold ins
    obtain ⟨h1, h2⟩ := List.pairwise_cons.mp h
    split
    · rename_i hxy
      refine List.pairwise_cons.mpr ⟨fun a ha => ?_, h⟩
      rcases List.mem_cons.mp ha with rfl | ha
      · exact hxy
      · exact Int.le_trans hxy (h1 a ha)
    · rename_i hxy
      refine List.pairwise_cons.mpr ⟨fun a ha => ?_, ins_sorted x ys h2⟩
      rcases List.mem_cons.mp ((ins_perm x ys).mem_iff.mp ha) with rfl | ha
      · omega
      · exact h1 a ha
theorem isort_sorted : ∀ xs, (isort xs).Pairwise (· ≤ ·)
  | [] => .nil
  | x :: xs => ins_sorted x _ (isort_sorted xs)
theorem isort_same {a b : List Int} (hp : a.Perm b) (ha : a.Pairwise (· ≤ ·)) : a = isort b :=
  (hp.trans (isort_perm b).symm).eq_of_pairwise (fun x y _ _ h1 h2 => Int.le_antisymm h1 h2) ha (isort_sorted b)
def gSorted (a : D) : Option (List D) := (lstI a).map fun ns => (isort ns).map .int
theorem sb_sorted (h : SN F e m) (hm : F.mg ("sorted" : Str) = none) (hg : F.sc.names.lookup ("sorted" : Str) = some .globalImplicit := by rfl) (hs : ∀ env, starEach [e] env = (false, eval e env) :: starEach [] env := by intro _; rfl) : SB F (.Call (.Name ("sorted" : Str) p) [e] [] pos) (mUnB gSorted m) :=
  sb_cb1 (r := rSortedI F.K) (fun X hX => by have := cr_sortedI (X := X); rw [F_K hX] at this; exact this) (fun fr w σ H z fp x a ds Q R ra e q => by
    unfold gSorted at e
    cases e1 : lstI a with
    | none => rw [e1] at e; cases e
    | some ns =>
      rw [e1] at e
      cases e
      obtain ⟨p, rfl, s⟩ := ra.lstI R e1
      refine ⟨p, ns, rfl, s, fun ns' p' hp hs hn => ?_⟩
      have := isort_same hp hs
      subst this
      exact q p' _ hn (RepL.ofInts _)) h hm PyProof.Rows.boot_sorted hg (by decide) (by decide) hs
/-- the ints of a list or tuple -/
def seqI (a : D) : Option (List Int) := (items a).bind toIs
theorem RepN.seqI {K : PySem.W.Frag} {fr : Fr} {w : World} {σ : St} {H : Hp} {z : Z} {fp : Nat → List Addr} {v : V} {a : D} (R : Rel K fr w σ H z fp) {ns : List Int} (h : RepN K w H v a) (e : M.seqI a = some ns) : ∃ p, v = .ref p ∧ (SqL K H p (ns.map .int) ∨ SqT K H p (ns.map .int)) := by
  unfold M.seqI at e
  cases e1 : items a with
  | none => rw [e1] at e; cases e
  | some ds =>
    rw [e1] at e
    have := toIs_map (show toIs ds = some ns from e)
    subst this
    obtain ⟨p, vs, rfl, s, rv⟩ := h.seq R e1
    rw [rv.ints] at s
    exact ⟨p, rfl, s⟩
theorem F_w {X : Cx} (hX : F.C X) : X.w = F.w := (F.eqs X hX).2.1
theorem cr_set {X : Cx} (hX : F.C X) (hc : F.cal = true) : CallR X (.type "set") (rSetI F.K F.w) := by
  have := cr_setI (F.calm X hX hc)
  rw [F_K hX, F_w hX] at this
  exact this
def gLenSet (a : D) : Option D := (seqI a).bind fun ns => if ns.length + 1 < scanBound then some (D.int (dd ns).length) else none
theorem se_lenSet {p2 pos2 : Pos} (h : SN F e m) (hm : F.mg ("len" : Str) = none) (hm2 : F.mg ("set" : Str) = none) (hc : F.cal = true := by rfl) (hg : F.sc.names.lookup ("len" : Str) = some .globalImplicit := by rfl) (hg2 : F.sc.names.lookup ("set" : Str) = some .globalImplicit := by rfl) (hs : ∀ env, starEach [e] env = (false, eval e env) :: starEach [] env := by intro _; rfl) :
    SE F (.Call (.Name ("len" : Str) p) [.Call (.Name ("set" : Str) p2) [e] [] pos2] [] pos) (mUn gLenSet m) := by
  obtain ⟨te, h1, h2⟩ := h.ex
  refine ⟨tCB (rLenSet F.w) (tCons (tCB (rSetI F.K F.w) (tCons te tNil)) tNil), fun X hX => ?_, fun fr w σ H z fp Q R q => ?_⟩
  · have hl := cr_lenSet (X := X)
    rw [F_w hX] at hl
    exact pe_cb1 hX hl (pe_ct1 hX (cr_set hX hc) (h1 X hX) hm2 PyProof.Rows.boot_set hg2 (by decide) (by decide) hs) hm PySem.boot_len hg (by decide) (by decide) (fun _ => rfl)
  · refine h2 fr w σ H z fp _ R (q.cut.imp fun a w1 H1 z1 fp1 R1 l1 k v r1 => ?_)
    have k := k.2.2
    unfold gLenSet at k
    cases e1 : seqI a with
    | none => rw [e1] at k; exact k.elim
    | some ns =>
      rw [e1] at k
      have k : Ens F fr w1 σ (mLift (if ns.length + 1 < scanBound then some (D.int (dd ns).length) else none) z1) _ := k
      by_cases hb : ns.length + 1 < scanBound
      · rw [if_pos hb] at k
        obtain ⟨p', rfl, s⟩ := r1.seqI R1 e1
        refine ⟨p', ns, rfl, s, hb, fun pn hn => ?_⟩
        exact ⟨pn, _, _, rfl, upd_same, k _ _ fp1 (R1.alloc hn) (World.le_add (R1.new0 hn)) _ (.int _)⟩
      · rw [if_neg hb] at k; exact k.elim
def gSortSet (a : D) : Option (List D) := (seqI a).bind fun ns => if ns.length + 1 < scanBound ∧ (dd ns).length < 64 then some ((isort (dd ns)).map D.int) else none
theorem sb_sortedSet {p2 pos2 : Pos} (h : SN F e m) (hm : F.mg ("sorted" : Str) = none) (hm2 : F.mg ("set" : Str) = none) (hc : F.cal = true := by rfl) (hg : F.sc.names.lookup ("sorted" : Str) = some .globalImplicit := by rfl) (hg2 : F.sc.names.lookup ("set" : Str) = some .globalImplicit := by rfl) (hs : ∀ env, starEach [e] env = (false, eval e env) :: starEach [] env := by intro _; rfl) :
    SB F (.Call (.Name ("sorted" : Str) p) [.Call (.Name ("set" : Str) p2) [e] [] pos2] [] pos) (mUnB gSortSet m) := by
  obtain ⟨te, h1, h2⟩ := h.ex
  refine ⟨tCB (rSortedSet F.w) (tCons (tCB (rSetI F.K F.w) (tCons te tNil)) tNil), fun X hX => ?_, fun fr w σ H z fp Q R q => ?_⟩
  · have hl := cr_sortedSet (F.calm X hX hc)
    rw [F_w hX] at hl
    exact pe_cb1 hX hl (pe_ct1 hX (cr_set hX hc) (h1 X hX) hm2 PyProof.Rows.boot_set hg2 (by decide) (by decide) hs) hm PyProof.Rows.boot_sorted hg (by decide) (by decide) (fun _ => rfl)
  · refine h2 fr w σ H z fp _ R ((tbd_of q).imp fun a w1 H1 z1 fp1 R1 l1 k v r1 => ?_)
    have k := k.2.2
    unfold gSortSet at k
    cases e1 : seqI a with
    | none => rw [e1] at k; exact k.elim
    | some ns =>
      rw [e1] at k
      have k : EnsB F fr w1 σ (mLift ((if ns.length + 1 < scanBound ∧ (dd ns).length < 64 then some ((isort (dd ns)).map D.int) else none).map .ml) z1) Q := k
      by_cases hb : ns.length + 1 < scanBound ∧ (dd ns).length < 64
      · rw [if_pos hb] at k
        obtain ⟨p', rfl, s⟩ := r1.seqI R1 e1
        refine ⟨p', ns, rfl, s, hb.1, fun pn hn => ?_⟩
        refine ⟨pn, _, _, rfl, upd_same, hb.2, fun ns' q' h1 h2 h3 h4 => ?_⟩
        have hp : ns'.Perm (dd ns) := by
          have n1 : ns'.Nodup := h1.imp fun {a b} h => Int.ne_of_lt h
          refine (List.perm_iff_count).mpr fun a => ?_
          rw [n1.count, (dd_nodup ns).count]
          have : a ∈ ns' ↔ a ∈ dd ns := by rw [h2, mem_dd]; exact decide_eq_true_iff
          simp only [this]
        have := isort_same hp (h1.imp fun {a b} h => Int.le_of_lt h)
        subst this
        exact k _ _ _ _ ((R1.alloc hn).newList h4 (RepL.ofInts _)) (World.le_add (R1.new0 hn))
      · rw [if_neg hb] at k; exact k.elim
/-! ## a list's methods, at a name that owns it -/
def mApp (i : Nat) (m : Mi D) : Mi D := fun z => match z.e[i]? with
  | some (.ml _) => mBind m (fun d z' => match z'.e[i]? with
    | some (.ml ds) => if ds.length < sizeLine then .ok .non ⟨z'.e.set i (.ml (ds ++ [d])), z'.s⟩ else .no
    | _ => .no) z
  | _ => .no
theorem slot_ml {K : PySem.W.Frag} {fr : Fr} {w : World} {σ : St} {H : Hp} {z : Z} {fp : Nat → List Addr} {i : Nat} {ds : List D} (R : Rel K fr w σ H z fp) (e : z.e[i]? = some (.ml ds)) : ∃ a vs, slot σ i = some (.ref a) ∧ fp i = [a] ∧ H a = some (.lst vs) ∧ RepL K w vs ds := R.slots i _ e
theorem Rel.setList {K : PySem.W.Frag} {fr : Fr} {w : World} {σ : St} {H : Hp} {z : Z} {fp : Nat → List Addr} {i : Nat} {a : Addr} {ds ds' : List D} {vs' : List V} (R : Rel K fr w σ H z fp) (e : z.e[i]? = some (.ml ds)) (hs : slot σ i = some (.ref a)) (hf : fp i = [a]) (r : RepL K w vs' ds') : Rel K fr w σ (upd H a (.lst vs')) ⟨z.e.set i (.ml ds'), z.s⟩ fp :=
  R.write (by rw [hf]; simp) (List.getElem?_eq_some_iff.mp e).1 ⟨a, vs', hs, hf, upd_same, r⟩
theorem pe_meth1 {X : Cx} {i : Nat} {te : TE} {r : V → List V → Hp → VK → Prop} {nm : Str} {mid : String} {apos cpos : Pos} (hX : F.C X) (pa : PlainAttrs "list") (slot : Slot "list" nm mid) (hty : typeOf (.builtin mid) = pure (.type "method_descriptor")) (hm : MtR X mid r) (h1 : PE X e te) (hN : F.N[i]? = some x) (hv : Vis F.sc x) (hd : (x == ("__debug__" : Str)) = false) (hcd : (x == ("__classdict__" : Str)) = false)
    (hs : ∀ env, starEach [e] env = (false, eval e env) :: starEach [] env) (hline : (apos.endLine == cpos.line) = true) : PE X (.Call (.Attribute (.Name x p) nm apos) [e] [] cpos) (tBM F.K "list" r (tVar i) (tCons te tNil)) := by
  have := pe_bm (cpos := cpos) (apos := apos) (name := nm) pa slot hty hm (pe_name (pos := p) hX i hN hv hd hcd) (pa_cons h1 pa_nil (hs X.env)) rfl (by rw [hs]; rfl) hline (hs X.env) rfl
  rw [F_K hX] at this
  exact this
theorem se_append (i : Nat) {apos cpos : Pos} (h : SE F e m) (hN : F.N[i]? = some x := by rfl) (hv : Vis F.sc x := by first | exact Or.inl rfl | exact Or.inr (Or.inl rfl) | exact Or.inr (Or.inr rfl)) (hd : (x == ("__debug__" : Str)) = false := by decide) (hcd : (x == ("__classdict__" : Str)) = false := by decide)
    (hs : ∀ env, starEach [e] env = (false, eval e env) :: starEach [] env := by intro _; rfl) (hline : (apos.endLine == cpos.line) = true := by rfl) : SE F (.Call (.Attribute (.Name x p) ("append" : Str) apos) [e] [] cpos) (mApp i m) := by
  obtain ⟨te, h1, h2⟩ := h.ex
  refine ⟨_, fun X hX => pe_meth1 hX PySem.F.plainAttrs_list PySem.F.slot_list_append PySem.F.type_list_append mt_append (h1 X hX) hN hv hd hcd hs hline, fun fr w σ H z fp Q R q => ?_⟩
  unfold mApp at q
  cases e0 : z.e[i]? with
  | none => rw [e0] at q; exact q.elim
  | some b0 =>
    cases b0 with
    | ml ds0 =>
      rw [e0] at q
      obtain ⟨a, vs0, s0, f0, q0, r0⟩ := slot_ml R e0
      refine ⟨.ref a, slot_get s0, .inl ⟨rfl, vs0, .inl (.inl q0)⟩, ?_⟩
      refine h2 fr w σ H z fp _ R ((Ens.cut q).imp fun d w1 H1 z1 fp1 R1 l1 k v r1 => ?_)
      have k := k.2.2
      cases e1 : z1.e[i]? with
      | none => rw [e1] at k; exact k.elim
      | some b1 =>
        cases b1 with
        | ml ds =>
          rw [e1] at k
          obtain ⟨a', vs, s1, f1, q1, rv⟩ := slot_ml R1 e1
          rw [s0] at s1
          cases s1
          have k : Ens F fr w1 σ (if ds.length < sizeLine then M.R.ok D.non ⟨z1.e.set i (.ml (ds ++ [d])), z1.s⟩ else .no) _ := k
          by_cases hl : ds.length < sizeLine
          · rw [if_pos hl] at k
            exact ⟨a, vs, v, rfl, rfl, q1, by rw [rv.length]; exact hl, k w1 _ fp1 (R1.setList e1 s0 f1 (rv.append (.one r1))) (World.le_refl w1) _ .non⟩
          · rw [if_neg hl] at k; exact k.elim
        | _ => rw [e1] at k; exact k.elim
    | _ => rw [e0] at q; exact q.elim
/-- x.pop(k) -/
def mPopAt (i : Nat) (m : Mi D) : Mi D := fun z => match z.e[i]? with
  | some (.ml _) => mBind m (fun d z' => match z'.e[i]?, d with
    | some (.ml ds), .int k => if -(2 ^ 63) ≤ k ∧ k < 2 ^ 63 then (match seqIndex? k ds.length with
      | some j => (match ds[j]? with
        | some y => .ok y ⟨z'.e.set i (.ml (ds.eraseIdx j)), z'.s⟩
        | none => .no)
      | none => .no) else .no
    | _, _ => .no) z
  | _ => .no
theorem se_popAt (i : Nat) {apos cpos : Pos} (h : SE F e m) (hN : F.N[i]? = some x := by rfl) (hv : Vis F.sc x := by first | exact Or.inl rfl | exact Or.inr (Or.inl rfl) | exact Or.inr (Or.inr rfl)) (hd : (x == ("__debug__" : Str)) = false := by decide) (hcd : (x == ("__classdict__" : Str)) = false := by decide)
    (hs : ∀ env, starEach [e] env = (false, eval e env) :: starEach [] env := by intro _; rfl) (hline : (apos.endLine == cpos.line) = true := by rfl) : SE F (.Call (.Attribute (.Name x p) ("pop" : Str) apos) [e] [] cpos) (mPopAt i m) := by
  obtain ⟨te, h1, h2⟩ := h.ex
  refine ⟨_, fun X hX => pe_meth1 hX PySem.F.plainAttrs_list PySem.F.slot_list_pop PySem.F.type_list_pop mt_popAt (h1 X hX) hN hv hd hcd hs hline, fun fr w σ H z fp Q R q => ?_⟩
  unfold mPopAt at q
  cases e0 : z.e[i]? with
  | none => rw [e0] at q; exact q.elim
  | some b0 =>
    cases b0 with
    | ml ds0 =>
      rw [e0] at q
      obtain ⟨a, vs0, s0, f0, q0, r0⟩ := slot_ml R e0
      refine ⟨.ref a, slot_get s0, .inl ⟨rfl, vs0, .inl (.inl q0)⟩, ?_⟩
      refine h2 fr w σ H z fp _ R ((Ens.cut q).imp fun d w1 H1 z1 fp1 R1 l1 k v r1 => ?_)
      have k := k.2.2
      cases e1 : z1.e[i]? with
      | none => rw [e1] at k; exact k.elim
      | some b1 =>
        cases b1 with
        | ml ds =>
          cases d with
          | int kk =>
            rw [e1] at k
            obtain ⟨a', vs, s1, f1, q1, rv⟩ := slot_ml R1 e1
            rw [s0] at s1
            cases s1
            cases r1
            have k : Ens F fr w1 σ (if -(2 ^ 63) ≤ kk ∧ kk < 2 ^ 63 then (match seqIndex? kk ds.length with
              | some j => (match ds[j]? with
                | some y => M.R.ok y ⟨z1.e.set i (.ml (ds.eraseIdx j)), z1.s⟩
                | none => .no)
              | none => .no) else .no) _ := k
            by_cases hl : -(2 ^ 63) ≤ kk ∧ kk < 2 ^ 63
            · rw [if_pos hl] at k
              cases e2 : seqIndex? kk ds.length with
              | none => rw [e2] at k; exact k.elim
              | some j =>
                rw [e2] at k
                cases e3 : ds[j]? with
                | none => simp only [e3] at k; exact k.elim
                | some y =>
                  simp only [e3] at k
                  obtain ⟨u, g1, g2⟩ := rv.get e3
                  exact ⟨a, vs, kk, j, u, rfl, rfl, q1, hl.1, hl.2, by rw [rv.length]; exact e2, g1, k w1 _ fp1 (R1.setList e1 s0 f1 (rv.eraseIdx j)) (World.le_refl w1) u g2⟩
            · rw [if_neg hl] at k; exact k.elim
          | _ => rw [e1] at k; exact k.elim
        | _ => rw [e1] at k; exact k.elim
    | _ => rw [e0] at q; exact q.elim
end
end M
namespace M
open PySem L2
open PyProof.Rows (envOfC)
section
variable {F : Fam} {e : Expr} {pos : Pos} {m : Mi D} {x : Str} {p : Pos}
/-! ## slices -/
def TOD (F : Fam) (to : TO) (m : Mi (Option Int)) : Prop := ∀ fr w σ H z fp (Q : Option Int → Hp → Prop), Rel F.K fr w σ H z fp → Ens F fr w σ (m z) (fun o w' H' _ _ => Q o H') → to σ H Q
structure SO (F : Fam) (e : Option Expr) (m : Mi (Option Int)) : Prop where
  ex : ∃ to, (∀ X, F.C X → PO X e to) ∧ TOD F to m
theorem so_none : SO F none (mPure none) := ⟨_, fun _ _ => po_none, fun fr w σ H z fp Q R q => q w H fp R (World.le_refl w)⟩
theorem so_some (h : SE F e m) : SO F (some e) (mBind m fun d => mLift ((toI d).map some)) := by
  obtain ⟨te, h1, h2⟩ := h.ex
  refine ⟨_, fun X hX => po_some (h1 X hX), fun fr w σ H z fp Q R q => ?_⟩
  refine h2 fr w σ H z fp _ R (q.cut.imp fun d w1 H1 z1 fp1 R1 l1 k v r1 => ?_)
  have k := k.2.2
  cases d with
  | int i => cases r1; exact ⟨i, rfl, k w1 H1 fp1 R1 (World.le_refl w1)⟩
  | _ => exact k.elim
def cutD (xs : List D) (lo hi : Option Int) : List D := (xs.drop (HT.sIx xs.length 0 lo)).take (HT.sIx xs.length xs.length hi - HT.sIx xs.length 0 lo)
theorem RepL.cut {K : PySem.W.Frag} {w : World} {vs : List V} {ds : List D} (lo hi : Option Int) (h : RepL K w vs ds) : RepL K w (cutV vs lo hi) (cutD ds lo hi) := by
  unfold cutV cutD
  rw [h.length]
  exact (h.drop _).take _
def lstOf : D → Option (List D)
  | .lst ds => some ds
  | .fz ds => some ds
  | _ => none
def mSlL (m : Mi D) (ml mh : Mi (Option Int)) : Mi B := mBind m fun d => mBind ml fun lo => mBind mh fun hi => mLift ((lstOf d).map fun ds => .ml (cutD ds lo hi))
theorem sb_slice {lo hi : Option Expr} {p2 : Pos} {ml mh : Mi (Option Int)} (h : SE F e m) (hl : SO F lo ml) (hh : SO F hi mh) : SB F (.Subscript e (.Slice lo hi none p2) pos) (mSlL m ml mh) := by
  obtain ⟨te, h1, h2⟩ := h.ex
  obtain ⟨tl, k1, k2⟩ := hl.ex
  obtain ⟨th, j1, j2⟩ := hh.ex
  refine ⟨tSl (rSlL F.K) te tl th, fun X hX => ?_, fun fr w σ H z fp Q R q => ?_⟩
  · have hr := sl_list (X := X)
    rw [F_K hX] at hr
    exact pe_slice hr (h1 X hX) (k1 X hX) (j1 X hX)
  · refine h2 fr w σ H z fp _ R ((tbd_of q).imp fun d w1 H1 z1 fp1 R1 l1 k v r1 => ?_)
    refine k2 fr w1 σ H1 z1 fp1 _ R1 ((tbd_of k.2.2).imp fun lo w2 H2 z2 fp2 R2 l2 k => ?_)
    refine j2 fr w2 σ H2 z2 fp2 _ R2 ((tbd_of k.2.2).imp fun hi w3 H3 z3 fp3 R3 l3 k => ?_)
    have k := k.2.2
    have r3 := r1.mono (World.le_trans l2 l3)
    have go : ∀ {a : Addr} {vs : List V} {ds : List D}, SqL F.K H3 a vs → RepL F.K w3 vs ds → EnsB F fr w3 σ (mPure (.ml (cutD ds lo hi)) z3) Q → rSlL F.K (.ref a) lo hi H3 Q := fun {a vs ds} s rv k =>
      ⟨a, vs, rfl, s, fun p hp => k _ _ _ _ (R3.newList hp (rv.cut lo hi)) (World.le_refl _)⟩
    cases d with
    | lst ds =>
      cases r3 with
      | lst s rv => exact go (.inl (.inl (R3.sub _ _ s))) rv k
    | fz ds =>
      cases r3 with
      | fz s rv => exact go (R3.sqL s) rv k
    | _ => exact k.elim
/-- t[lo:hi] of a tuple, not the whole of it -/
def gSlT (d : D) (lo hi : Option Int) : Option D := match d with
  | .tup ds => if HT.sIx ds.length 0 lo = 0 ∧ HT.sIx ds.length ds.length hi = ds.length then none else some (.tup (cutD ds lo hi))
  | .str s => if s.length ≤ sizeLine then some (.str (cutS s lo hi)) else none
  | .lst ds => some (.lst (cutD ds lo hi))
  | .fz ds => some (.lst (cutD ds lo hi))
  | _ => none
def mSl (m : Mi D) (ml mh : Mi (Option Int)) : Mi D := mBind m fun d => mBind ml fun lo => mBind mh fun hi => mLift (gSlT d lo hi)
theorem se_slice {lo hi : Option Expr} {p2 : Pos} {ml mh : Mi (Option Int)} (h : SE F e m) (hl : SO F lo ml) (hh : SO F hi mh) : SE F (.Subscript e (.Slice lo hi none p2) pos) (mSl m ml mh) := by
  obtain ⟨te, h1, h2⟩ := h.ex
  obtain ⟨tl, k1, k2⟩ := hl.ex
  obtain ⟨th, j1, j2⟩ := hh.ex
  refine ⟨tSl (fun x lo hi H Q => rSlL F.K x lo hi H Q ∨ rSlT F.K x lo hi H Q ∨ rSlS x lo hi H Q) te tl th, fun X hX => ?_, fun fr w σ H z fp Q R q => ?_⟩
  · have hr := sl_list (X := X)
    have hr2 := sl_tup (X := X)
    rw [F_K hX] at hr hr2
    refine pe_slice (fun pins s σ H x v vl vu lo hi sl Q I rx hs pl pu h => ?_) (h1 X hX) (k1 X hX) (j1 X hX)
    rcases h with h | h | h
    · exact hr pins s σ H x v vl vu lo hi sl Q I rx hs pl pu h
    · exact hr2 pins s σ H x v vl vu lo hi sl Q I rx hs pl pu h
    · exact sl_str pins s σ H x v vl vu lo hi sl Q I rx hs pl pu h
  · refine h2 fr w σ H z fp _ R (q.cut.imp fun d w1 H1 z1 fp1 R1 l1 k v r1 => ?_)
    refine k2 fr w1 σ H1 z1 fp1 _ R1 (k.2.2.cut.imp fun lo w2 H2 z2 fp2 R2 l2 k => ?_)
    refine j2 fr w2 σ H2 z2 fp2 _ R2 (k.2.2.cut.imp fun hi w3 H3 z3 fp3 R3 l3 k => ?_)
    have k := k.2.2
    have r3 := r1.mono (World.le_trans l2 l3)
    cases eg : gSlT d lo hi with
    | none => rw [eg] at k; exact k.elim
    | some d' =>
      rw [eg] at k
      cases d with
      | tup ds =>
        cases r3 with
        | tup s rv =>
          rename_i a vs
          have eg : (if HT.sIx ds.length 0 lo = 0 ∧ HT.sIx ds.length ds.length hi = ds.length then none else some (D.tup (cutD ds lo hi))) = some d' := eg
          by_cases hw : HT.sIx ds.length 0 lo = 0 ∧ HT.sIx ds.length ds.length hi = ds.length
          · rw [if_pos hw] at eg; cases eg
          · rw [if_neg hw] at eg
            cases eg
            refine .inr (.inl ⟨a, vs, rfl, R3.sqT s, by rw [rv.length]; exact hw, fun p hp => ?_⟩)
            obtain ⟨b1, b2, b3⟩ := R3.putT hp (rv.cut lo hi)
            exact k _ _ fp3 b1 b2 _ b3
      | lst ds =>
        cases r3 with
        | lst s rv =>
          rename_i a vs
          cases eg
          refine .inl ⟨a, vs, rfl, .inl (.inl (R3.sub _ _ s)), fun p hp => ?_⟩
          obtain ⟨b1, b2, b3⟩ := R3.put hp (rv.cut lo hi)
          exact k _ _ fp3 b1 b2 _ b3
      | fz ds =>
        cases r3 with
        | fz s rv =>
          rename_i a vs
          cases eg
          refine .inl ⟨a, vs, rfl, R3.sqL s, fun p hp => ?_⟩
          obtain ⟨b1, b2, b3⟩ := R3.put hp (rv.cut lo hi)
          exact k _ _ fp3 b1 b2 _ b3
      | str s =>
        cases r3
        have eg : (if s.length ≤ sizeLine then some (D.str (cutS s lo hi)) else none) = some d' := eg
        by_cases hw : s.length ≤ sizeLine
        · rw [if_pos hw] at eg
          cases eg
          exact .inr (.inr ⟨s, rfl, hw, k w3 H3 fp3 R3 (World.le_refl w3) _ (.str _)⟩)
        · rw [if_neg hw] at eg; cases eg
      | _ => cases eg
/-! ## comprehensions in expressions -/
structure STs (F : Fam) (ifs : List Expr) (m : Mi Bool) : Prop where
  ex : ∃ tt, (∀ X, F.C X → PTs X ifs tt) ∧ TTD F tt m
theorem sts_nil : STs F [] (mPure true) := ⟨_, fun _ _ => pts_nil, fun fr w σ H z fp Q R q => q w H fp R (World.le_refl w)⟩
theorem sts_one {c : Expr} {A : Mi Bool} (h : ST F c A) : STs F [c] A := by
  obtain ⟨t, h1, h2⟩ := h.ex
  exact ⟨t, fun X hX => pts_one (h1 X hX), h2⟩
theorem blk_ok {X : Cx} {scope : Scope} {own : List (Str × Nat)} (hX : F.C X) (h : BlkOk F.N F.sc scope own) : BlkOk X.N X.env.scope scope own := by
  obtain ⟨e1, e2, e3, e4, e5, e6, e7, e8⟩ := F.eqs X hX
  rw [e6, e7]
  exact h
theorem F_nd {X : Cx} (hX : F.C X) : X.N.Nodup := by rw [(F.eqs X hX).2.2.2.2.2.1]; exact F.nd
theorem sb_lc {elt tg iter : Expr} {ifs : List Expr} {scope : Scope} {own : List (Str × Nat)} {mi : Mi (List D)} {t : D → Z → Option Z} {c : Mi Bool} (hi : SI F tg iter mi) (ok : BlkOk F.N F.sc scope own) (hg : SGW (F.blk scope) (own.map (·.2)) tg t) (ht : STs (F.blk scope) ifs c) (he : SE (F.blk scope) elt m) (hc : F.cal = true := by rfl)
    (hs : ∀ env x, foldedSetIterable iter env x = pure x := by intro _ _; rfl) : SB F (.ListComp elt [⟨tg, iter, ifs, 0⟩] scope pos) (mLc (own.map (·.2)) mi t c m) := by
  obtain ⟨wi, i1, i2⟩ := hi.ex
  obtain ⟨g, g1, g2, g3⟩ := hg.ex
  obtain ⟨tt, t1, t2⟩ := ht.ex
  obtain ⟨te, e1, e2⟩ := he.ex
  exact ⟨_, fun X hX => pe_lc (F.calm X hX hc) (F_nd hX) (i1 X hX) (blk_ok hX ok) (fun s H C cl fp => g1 _ ⟨X, hX, s, H, C, cl, fp, rfl⟩) (fun s H C cl fp => t1 _ ⟨X, hX, s, H, C, cl, fp, rfl⟩) (fun s H C cl fp => e1 _ ⟨X, hX, s, H, C, cl, fp, rfl⟩) (hs X.env),
    tbd_lc (Fb := F.blk scope) rfl i2 g2 g3 t2 e2⟩
/-- x = [..], x a name of the def's own (no cell) -/
theorem ss_ownLc (i : Nat) {elt tg iter : Expr} {ifs : List Expr} {scope : Scope} {own : List (Str × Nat)} {mi : Mi (List D)} {t : D → Z → Option Z} {c : Mi Bool} {spos : Pos} (hi : SI F tg iter mi) (ok : BlkOk F.N F.sc scope own) (hg : SGW (F.blk scope) (own.map (·.2)) tg t) (ht : STs (F.blk scope) ifs c) (he : SE (F.blk scope) elt m)
    (hsw : ∀ env : Env, env.scope = F.sc → swapsWith (.ListComp elt [⟨tg, iter, ifs, 0⟩] scope pos) (some (.Name x p)) spos.line env = pure true) (hc : F.cal = true := by rfl) (hN : F.N[i]? = some x := by rfl) (hl : F.sc.names.lookup x = some .local := by rfl) (hs : ∀ env x, foldedSetIterable iter env x = pure x := by intro _ _; rfl) :
    SS F (.Assign [.Name x p] (.ListComp elt [⟨tg, iter, ifs, 0⟩] scope pos) spos) (mOwn i (mLc (own.map (·.2)) mi t c m)) := by
  obtain ⟨wi, i1, i2⟩ := hi.ex
  obtain ⟨g, g1, g2, g3⟩ := hg.ex
  obtain ⟨tt, t1, t2⟩ := ht.ex
  obtain ⟨te, e1, e2⟩ := he.ex
  refine ⟨_, fun X hX => ?_, tsd_own i (tbd_lc (Fb := F.blk scope) rfl i2 g2 g3 t2 e2)⟩
  obtain ⟨q1, q2, q3, q4, q5, q6, q7, q8⟩ := F.eqs X hX
  exact ps_setLc (F.calm X hX hc) (F_nd hX) (by rw [q6]; exact hN) (by rw [q7]; exact hl) (hsw X.env q7) (i1 X hX) (blk_ok hX ok) (fun s H C cl fp => g1 _ ⟨X, hX, s, H, C, cl, fp, rfl⟩) (fun s H C cl fp => t1 _ ⟨X, hX, s, H, C, cl, fp, rfl⟩) (fun s H C cl fp => e1 _ ⟨X, hX, s, H, C, cl, fp, rfl⟩) (hs X.env)
/-- .. its value known from then on -/
def mSetB (i : Nat) (m : Mi B) : Mi Fl := mBind m fun b z => match fzB b with
  | some d => .ok .nx ⟨z.e.set i (.v d), z.s⟩
  | none => .no
theorem tsd_setB (i : Nat) {te : TE} {m : Mi B} (h : TBD F te m) : TSD F (tAsg te (gName i)) (mSetB i m) := fun fr w σ H z fp E R q => by
  refine h fr w σ H z fp _ R ?_
  unfold mSetB mBind at q
  cases e1 : m z with
  | ok b z' =>
    rw [e1] at q
    intro v w' H' fp' R' l
    cases e2 : fzB b with
    | none => simp only [e2] at q; exact q.elim
    | some d =>
      simp only [e2] at q
      obtain ⟨w2, fp2, l2, R2, r2⟩ := R'.settle e2
      exact q _ w2 H' _ (R2.store i r2) (World.le_trans l l2)
  | ex c z' => rw [e1] at q; exact fun w' H' fp' R' l => q σ w' H' fp' R' l
  | no => rw [e1] at q; exact q
theorem ss_setLc (i : Nat) {elt tg iter : Expr} {ifs : List Expr} {scope : Scope} {own : List (Str × Nat)} {mi : Mi (List D)} {t : D → Z → Option Z} {c : Mi Bool} {spos : Pos} (hi : SI F tg iter mi) (ok : BlkOk F.N F.sc scope own) (hg : SGW (F.blk scope) (own.map (·.2)) tg t) (ht : STs (F.blk scope) ifs c) (he : SE (F.blk scope) elt m)
    (hsw : ∀ env : Env, env.scope = F.sc → swapsWith (.ListComp elt [⟨tg, iter, ifs, 0⟩] scope pos) (some (.Name x p)) spos.line env = pure true) (hc : F.cal = true := by rfl) (hN : F.N[i]? = some x := by rfl) (hl : F.sc.names.lookup x = some .local := by rfl) (hs : ∀ env x, foldedSetIterable iter env x = pure x := by intro _ _; rfl) :
    SS F (.Assign [.Name x p] (.ListComp elt [⟨tg, iter, ifs, 0⟩] scope pos) spos) (mSetB i (mLc (own.map (·.2)) mi t c m)) := by
  obtain ⟨wi, i1, i2⟩ := hi.ex
  obtain ⟨g, g1, g2, g3⟩ := hg.ex
  obtain ⟨tt, t1, t2⟩ := ht.ex
  obtain ⟨te, e1, e2⟩ := he.ex
  refine ⟨_, fun X hX => ?_, tsd_setB i (tbd_lc (Fb := F.blk scope) rfl i2 g2 g3 t2 e2)⟩
  obtain ⟨q1, q2, q3, q4, q5, q6, q7, q8⟩ := F.eqs X hX
  exact ps_setLc (F.calm X hX hc) (F_nd hX) (by rw [q6]; exact hN) (by rw [q7]; exact hl) (hsw X.env q7) (i1 X hX) (blk_ok hX ok) (fun s H C cl fp => g1 _ ⟨X, hX, s, H, C, cl, fp, rfl⟩) (fun s H C cl fp => t1 _ ⟨X, hX, s, H, C, cl, fp, rfl⟩) (fun s H C cl fp => e1 _ ⟨X, hX, s, H, C, cl, fp, rfl⟩) (hs X.env)
/-- does a comprehension's store swap? by the scope alone -/
theorem swap_of {elt tg iter : Expr} {ifs : List Expr} {scope sc : Scope} {t : Str} {p spos : Pos} {b : Bool} (hk : sc.kind = .function)
    (h : (sc.names.lookup t == some NameKind.local && p.line == pos.line && !(scope.names.any fun (n, k) => n == t && (k == .local || k == .cell))) = b) :
    ∀ env : Env, env.scope = sc → swapsWith (.ListComp elt [⟨tg, iter, ifs, 0⟩] scope pos) (some (.Name t p)) spos.line env = pure b := by
  intro env he
  have e1 : (env.blockKind == ScopeKind.function) = true := by
    unfold Env.blockKind
    rw [he, hk]
    rfl
  show pure (env.blockKind == ScopeKind.function && env.kindOf t == some NameKind.local && p.line == pos.line && !(scope.names.any fun (n, k) => n == t && (k == .local || k == .cell))) = pure b
  unfold Env.kindOf
  rw [e1, he, Bool.true_and, h]
/-! ## two names at once: new things, or values -/
/-- a, b = e, e' : both names the def's own -/
inductive PV (F : Fam) (e : Expr) : Mi B → Prop
  | b {m : Mi B} (h : SB F e m) : PV F e m
  | v {m : Mi D} (h : SE F e m) : PV F e (mBind m fun d => mPure (.v d))
theorem PV.ex {m : Mi B} (h : PV F e m) : ∃ te, (∀ X, F.C X → PE X e te) ∧ TBD F te m := by
  cases h with
  | b h => exact h.ex
  | v h =>
    obtain ⟨te, h1, h2⟩ := h.ex
    refine ⟨te, h1, fun fr w σ H z fp Q R q => ?_⟩
    refine h2 fr w σ H z fp _ R ((tbd_of q).imp fun d w1 H1 z1 fp1 R1 l1 k v r1 => ?_)
    have hl := R1.len
    refine k.2.2 v w1 H1 (fun j => if j = z1.e.length then [] else fp1 j) ?_ (World.le_refl w1)
    refine ⟨R1.sub, R1.ge, R1.frame, R1.dom, R1.fresh, by simp [hl], fun j b' e => ?_, fun j e => ?_, fun j a m => ?_, fun j => ?_, fun j k a m m' => ?_, R1.shl, R1.sh, R1.shd, R1.sh0⟩
    · have e : (z1.e ++ [.v d])[j]? = some b' := e
      by_cases hj : j = z1.e.length
      · subst hj
        rw [List.getElem?_append_right (Nat.le_refl _), Nat.sub_self] at e
        cases e
        rw [if_pos rfl, ← hl, slot_app_last]
        exact ⟨rfl, v, rfl, r1⟩
      · have hjl : j < z1.e.length := by
          have := (List.getElem?_eq_some_iff.mp e).1
          simp at this
          omega
        rw [List.getElem?_append_left hjl] at e
        rw [if_neg hj, slot_app_left (by omega)]
        exact R1.slots j b' e
    · have e : (z1.e ++ [.v d])[j]? = none := e
      have hjl := List.getElem?_eq_none_iff.mp e
      simp at hjl
      rw [if_neg (by omega)]
      exact R1.away j (List.getElem?_eq_none (by omega))
    · by_cases hj : j = z1.e.length
      · rw [if_pos hj] at m; cases m
      · rw [if_neg hj] at m; exact R1.own j a m
    · by_cases hj : j = z1.e.length
      · rw [if_pos hj]; exact List.nodup_nil
      · rw [if_neg hj]; exact R1.nd j
    · by_cases hj : j = z1.e.length
      · rw [if_pos hj] at m; cases m
      · by_cases hk : k = z1.e.length
        · rw [if_pos hk] at m'; cases m'
        · rw [if_neg hj] at m; rw [if_neg hk] at m'; exact R1.dj j k a m m'
end
end M
namespace M
open PySem L2
open PyProof.Rows (envOfC)
section
variable {K : PySem.W.Frag} {fr : Fr} {w w1 w2 : World} {σ τ : St} {H H1 H2 : Hp} {e e2 : List B} {bs : List B} {s s2 : List SObj} {fp fp1 fp2 : Nat → List Addr} {b b2 : B} {o : Option V} {v2 : V}
/-- empty slots put between -/
theorem Rel.pad (R : Rel K fr w (σ ++ [o]) H ⟨e ++ [b], s⟩ fp) (τ : St) : Rel K fr w (σ ++ τ ++ [o]) H ⟨e ++ List.replicate τ.length .un ++ [b], s⟩ (fun j => if j < e.length then fp j else if j = e.length + τ.length then fp e.length else []) := by
  have hl : σ.length = e.length := by have := R.len; simpa using this
  have cs : ∀ {j a}, a ∈ (if j < e.length then fp j else if j = e.length + τ.length then fp e.length else []) → ∃ k, a ∈ fp k ∧ ((j < e.length ∧ k = j) ∨ (j = e.length + τ.length ∧ k = e.length)) := fun {j a} m => by
    split at m
    · rename_i h; exact ⟨j, m, .inl ⟨h, rfl⟩⟩
    · split at m
      · rename_i h; exact ⟨_, m, .inr ⟨h, rfl⟩⟩
      · cases m
  refine ⟨R.sub, R.ge, R.frame, R.dom, R.fresh, by simp [hl], fun j b' q => ?_, fun j q => ?_, fun j a m => ?_, fun j => ?_, fun j k a m m' => ?_, R.shl, R.sh, R.shd, R.sh0⟩
  · have q : (e ++ List.replicate τ.length B.un ++ [b])[j]? = some b' := q
    by_cases h1 : j < e.length
    · rw [List.append_assoc, List.getElem?_append_left h1] at q
      rw [if_pos h1, List.append_assoc, show slot (σ ++ (τ ++ [o])) j = slot σ j from by unfold slot; rw [List.getElem?_append_left (by omega)]]
      have := R.slots j b' (by show (e ++ [b])[j]? = _; rw [List.getElem?_append_left h1]; exact q)
      rwa [slot_app_left (by omega)] at this
    · by_cases h2 : j = e.length + τ.length
      · subst h2
        rw [List.getElem?_append_right (by simp)] at q
        simp at q
        subst q
        rw [if_neg (by omega), if_pos rfl]
        have := R.slots e.length b (by show (e ++ [b])[e.length]? = _; rw [List.getElem?_append_right (Nat.le_refl _), Nat.sub_self]; rfl)
        rw [← hl, slot_app_last] at this
        rw [show slot (σ ++ τ ++ [o]) (e.length + τ.length) = o from by rw [← hl, ← List.length_append]; exact slot_app_last, ← hl]
        exact this
      · have h3 : j < e.length + τ.length := by
          have := (List.getElem?_eq_some_iff.mp q).1
          simp at this
          omega
        rw [List.getElem?_append_left (by simp; omega), List.getElem?_append_right (by omega), List.getElem?_replicate, if_pos (by omega)] at q
        cases q
        rw [if_neg h1, if_neg h2]
        rfl
  · have q : (e ++ List.replicate τ.length B.un ++ [b])[j]? = none := q
    have := List.getElem?_eq_none_iff.mp q
    simp at this
    rw [if_neg (by omega), if_neg (by omega)]
  · obtain ⟨k, h, _⟩ := cs m
    exact R.own k a h
  · show (if j < e.length then fp j else if j = e.length + τ.length then fp e.length else []).Nodup
    split
    · exact R.nd _
    · split
      · exact R.nd _
      · exact List.nodup_nil
  · obtain ⟨x, x1, x2⟩ := cs m
    obtain ⟨y, y1, y2⟩ := cs m'
    have := R.dj x y a x1 y1
    omega
/-- what waits behind the slots stays while more is made -/
theorem Rel.pend (R1 : Rel K fr w1 (σ ++ τ) H1 ⟨e ++ bs, s⟩ fp1) (hσ : σ.length = e.length) (R2 : Rel K ⟨H1, w1, pfAt w1 fp1 (fun j => j < e.length)⟩ w2 (σ ++ [some v2]) H2 ⟨e2 ++ [b2], s2⟩ fp2) :
    ∃ fp3, Rel K fr w2 (σ ++ τ ++ [some v2]) H2 ⟨e2 ++ bs ++ [b2], s2⟩ fp3 := by
  have hl1 : τ.length = bs.length := by have := R1.len; simp at this; omega
  have hl2 : σ.length = e2.length := by have := R2.len; simpa using this
  have R3 := R2.pad τ
  have ef : pfAt w1 fp1 (fun j => j < e.length) = pfAt w1 fp1 (fun j => j < e.length ∨ j = e.length + τ.length) := by
    funext a
    apply propext
    constructor
    · rintro (h | ⟨i, h1, h2⟩)
      · exact .inl h
      · exact .inr ⟨i, .inl h1, h2⟩
    · rintro (h | ⟨i, h1 | h1, h2⟩)
      · exact .inl h
      · exact .inr ⟨i, h1, h2⟩
      · rw [R1.away i (List.getElem?_eq_none (by simp; omega))] at h2
        cases h2
  rw [ef] at R3
  refine ⟨fun j => if j < e.length ∨ j = e.length + τ.length then (if j < e2.length then fp2 j else if j = e2.length + τ.length then fp2 e2.length else []) else fp1 j, R1.back R3 (by simp; omega) (fun j hj => ⟨?_, rfl, by rw [if_pos hj]⟩) fun j hj => ⟨?_, ?_, by rw [if_neg hj]⟩⟩
  · show _ = (e2 ++ List.replicate τ.length B.un ++ [b2])[j]?
    rcases hj with hj | hj
    · rw [List.append_assoc, List.append_assoc, List.getElem?_append_left (by omega), List.getElem?_append_left (by omega)]
    · rw [List.getElem?_append_right (by simp; omega), List.getElem?_append_right (by simp; omega)]
      simp [hl1]
  · show _ = (e ++ bs)[j]?
    by_cases h : j < e2.length + bs.length
    · rw [List.getElem?_append_left (by simp; omega), List.getElem?_append_right (by omega), List.getElem?_append_right (by omega)]
      congr 1
      omega
    · rw [List.getElem?_eq_none (by simp; omega), List.getElem?_eq_none (by simp; omega)]
  · by_cases h : j < (σ ++ τ).length
    · unfold slot; rw [List.getElem?_append_left h]
    · rw [slot_out (σ := σ ++ τ) (by omega), slot_out (σ := σ ++ τ ++ [some v2])]
      simp at h ⊢
      omega
/-- begun anew, the slots alone -/
theorem Rel.front (R1 : Rel K fr w1 (σ ++ τ) H1 ⟨e ++ bs, s⟩ fp1) (hσ : σ.length = e.length) : Rel K ⟨H1, w1, pfAt w1 fp1 (fun j => j < e.length)⟩ w1 σ H1 ⟨e, s⟩ (fun j => if j < e.length then fp1 j else []) := by
  refine R1.anew hσ (fun j hj => ⟨?_, ?_, by rw [if_pos hj]⟩) fun j hj => ⟨fun b q => ?_, by rw [if_neg hj]⟩
  · show _ = (e ++ bs)[j]?
    rw [List.getElem?_append_left hj]
  · unfold slot; rw [List.getElem?_append_left (by omega)]
  · rw [List.getElem?_eq_none (by omega)] at q; cases q
end
section
variable {F : Fam} {ex tg : Expr} {pos : Pos} {x : Str} {p : Pos}
/-! ## two names at once -/
def mPar (i j : Nat) (m1 m2 : Mi B) : Mi Fl := mBind m1 fun b1 => mBind m2 fun b2 z => if i < z.e.length ∧ j < z.e.length then .ok .nx ⟨(z.e.set i b1).set j b2, z.s⟩ else .no
theorem set_app {α : Type} {l : List α} {i : Nat} {a x : α} (h : i < l.length) : (l ++ [x]).set i a = l.set i a ++ [x] := List.set_append_left _ _ h
theorem pf_front {K : PySem.W.Frag} {fr : Fr} {w1 : World} {σ : St} {H1 : Hp} {e : List B} {s : List SObj} {fp1 : Nat → List Addr} {b : B} {o : Option V} (R1 : Rel K fr w1 (σ ++ [o]) H1 ⟨e ++ [b], s⟩ fp1) :
    pfAt w1 fp1 (fun j => j < e.length) = pfAt w1 (fun j => if j < e.length then fp1 j else []) (fun _ => True) := by
  funext ad
  apply propext
  constructor
  · rintro (h | ⟨k, h3, h4⟩)
    · exact .inl h
    · exact .inr ⟨k, trivial, by show ad ∈ (if k < e.length then fp1 k else []); rw [if_pos h3]; exact h4⟩
  · rintro (h | ⟨k, _, h4⟩)
    · exact .inl h
    · have h4 : ad ∈ (if k < e.length then fp1 k else []) := h4
      by_cases hk : k < e.length
      · rw [if_pos hk] at h4; exact .inr ⟨k, hk, h4⟩
      · rw [if_neg hk] at h4; cases h4
theorem tsd_par (i j : Nat) {ta tb : TE} {m1 m2 : Mi B} (hij : i ≠ j) (a2 : TBD F ta m1) (b2 : TBD F tb m2) : TSD F (tPar i j (tCons ta (tCons tb tNil))) (mPar i j m1 m2) := fun fr w σ H z fp E R q => by
  refine a2 fr w σ H z fp _ R ?_
  unfold mPar mBind at q
  cases q1 : m1 z with
  | ex c z1 => simp only [q1] at q; exact fun w' H' fp' R' l' => q σ w' H' fp' R' l'
  | no => simp only [q1] at q; exact q
  | ok bl1 z1 =>
    simp only [q1] at q
    intro v1 w1 H1 fp1 R1 l1
    have hl1 : σ.length = z1.e.length := by have := R1.len; simpa using this
    refine b2 _ w1 σ H1 z1 _ _ (R1.front hl1) ?_
    cases q2 : m2 z1 with
    | ex c z2 =>
      simp only [q2] at q
      intro w' H' fp' R' l'
      have R3 := R1.pop
      rw [pf_front R1] at R'
      exact q σ w' H' _ (R3.back R' R'.len (fun _ _ => ⟨rfl, rfl, rfl⟩) fun _ h => absurd trivial h) (World.le_trans l1 l')
    | no => simp only [q2] at q; exact q
    | ok bl2 z2 =>
      simp only [q2] at q
      intro v2 w2 H2 fp2 R2 l2
      have hl2 : σ.length = z2.e.length := by have := R2.len; simpa using this
      obtain ⟨fp3, R3⟩ := R1.pend (τ := [some v1]) (bs := [bl1]) hl1 R2
      refine ⟨v1, v2, rfl, ?_⟩
      by_cases hb : i < z2.e.length ∧ j < z2.e.length
      · rw [if_pos hb] at q
        have R4 := R3.give j
        rw [set_app (by omega : j < σ.length), set_app hb.2] at R4
        have R5 := R4.give i
        rw [List.set_comm (some v2) (some v1) (Ne.symm hij), List.set_comm bl2 bl1 (Ne.symm hij)] at R5
        exact q _ w2 H2 _ R5 (World.le_trans l1 l2)
      · rw [if_neg hb] at q; exact q.elim
theorem ss_par (i j : Nat) {y : Str} {a b : Expr} {m1 m2 : Mi B} {px py pt spos : Pos} {kt k2 pt2} (h1 : PV F a m1) (h2 : PV F b m2) (hij : i ≠ j := by decide) (hi : F.N[i]? = some x := by rfl) (hj : F.N[j]? = some y := by rfl) (hx : F.sc.names.lookup x = some .local := by rfl) (hy : F.sc.names.lookup y = some .local := by rfl)
    (hw : ∀ env : Env, env.scope = F.sc → swappedStores [.Tuple [.Name x px, .Name y py] kt pt] (.Tuple [a, b] k2 pt2) env = pure (some [x, y])) (hc : F.cal = true := by rfl)
    (hs1 : ∀ env, starEach [a, b] env = (false, eval a env) :: starEach [b] env := by intro _; rfl) (hs2 : ∀ env, starEach [b] env = (false, eval b env) :: starEach [] env := by intro _; rfl) :
    SS F (.Assign [.Tuple [.Name x px, .Name y py] kt pt] (.Tuple [a, b] k2 pt2) spos) (mPar i j m1 m2) := by
  obtain ⟨ta, a1, a2⟩ := h1.ex
  obtain ⟨tb, b1, b2⟩ := h2.ex
  refine ⟨tPar i j (tCons ta (tCons tb tNil)), fun X hX => ?_, tsd_par i j hij a2 b2⟩
  obtain ⟨e1, e2, e3, e4, e5, e6, e7, e8⟩ := F.eqs X hX
  exact ps_par (F.calm X hX hc) (F_nd hX) (by rw [e6]; exact hi) (by rw [e6]; exact hj) hij (by rw [e7]; exact hx) (by rw [e7]; exact hy) (pa_cons (a1 X hX) (pa_cons (b1 X hX) pa_nil (hs2 X.env)) (hs1 X.env)) (hw X.env e7)
/-! ## comprehensions of new lists and dicts -/
def mLcBGo (vs : List Nat) (t : D → Z → Option Z) (c : Mi Bool) (m : Mi B) : List D → List B → Mi (List B)
  | [], acc => mPure acc
  | d :: ds, acc => fun z => match t d (z.wipe vs) with
    | none => .no
    | some z1 => match c z1 with
      | .ok false z2 => mLcBGo vs t c m ds acc z2
      | .ok true z2 => (match m z2 with
        | .ok y z3 => if acc.length < sizeLine then mLcBGo vs t c m ds (acc ++ [y]) z3 else .no
        | _ => .no)
      | _ => .no
def mLcB (vs : List Nat) (mi : Mi (List D)) (t : D → Z → Option Z) (c : Mi Bool) (m : Mi B) : Mi B := mBind mi fun ds z => match mLcBGo vs t c m ds [] z with
  | .ok acc z' => .ok (.ms acc) ⟨backE z.e z'.e vs, z'.s⟩
  | _ => .no
end
section
variable {K : PySem.W.Frag} {fr : Fr} {w : World} {σ : St} {H : Hp} {z : Z} {e : List B} {s : List SObj} {fp : Nat → List Addr} {b : B} {v : V} {a : Addr}
theorem SlotsR.snoc {bs : List B} {v : V} {b : B} {f g : List Addr} (h2 : SlotR K w H (some v) b g) : ∀ {bs : List B} {vs : List V} {f : List Addr}, SlotsR K w H vs bs f → SlotsR K w H (vs ++ [v]) (bs ++ [b]) (f ++ g)
  | [], _, _, h => by
    obtain ⟨rfl, rfl⟩ := h
    exact ⟨v, [], g, [], rfl, by simp, h2, rfl, rfl⟩
  | c :: bs, _, _, h => by
    obtain ⟨v', us, f1, g1, rfl, rfl, s1, s2⟩ := h
    exact ⟨v', us ++ [v], f1, g1 ++ g, rfl, by rw [List.append_assoc], s1, SlotsR.snoc (bs := bs) (f := g1) h2 s2⟩
theorem SlotsR.len : ∀ {bs : List B} {vs : List V} {f : List Addr}, SlotsR K w H vs bs f → vs.length = bs.length
  | [], _, _, h => by obtain ⟨rfl, rfl⟩ := h; rfl
  | c :: bs, _, _, h => by
    obtain ⟨v', us, f1, g1, rfl, rfl, s1, s2⟩ := h
    rw [List.length_cons, List.length_cons, SlotsR.len s2]
/-- the last of two that wait goes into the list ahead of it -/
theorem Rel.absorb {us : List V} {bs : List B} (R : Rel K fr w (σ ++ [some (.ref a)] ++ [some v]) H ⟨e ++ [.ms bs] ++ [b], s⟩ fp) (hU : H a = some (.lst us)) :
    ∃ fp', Rel K fr w (σ ++ [some (.ref a)]) (upd H a (.lst (us ++ [v]))) ⟨e ++ [.ms (bs ++ [b])], s⟩ fp' := by
  have hl : σ.length = e.length := by have := R.len; simpa using this
  have g1 : (e ++ [B.ms bs] ++ [b])[e.length]? = some (.ms bs) := by rw [List.append_assoc, List.getElem?_append_right (Nat.le_refl _), Nat.sub_self]; rfl
  have g2 : (e ++ [B.ms bs] ++ [b])[e.length + 1]? = some b := by rw [List.getElem?_append_right (by simp)]; simp
  have s1 := R.slots e.length _ g1
  have s2 := R.slots (e.length + 1) _ g2
  rw [show slot (σ ++ [some (V.ref a)] ++ [some v]) e.length = some (.ref a) from by rw [← hl]; unfold slot; rw [List.append_assoc, List.getElem?_append_right (Nat.le_refl _), Nat.sub_self]; rfl] at s1
  rw [show slot (σ ++ [some (V.ref a)] ++ [some v]) (e.length + 1) = some v from by rw [← hl]; unfold slot; rw [List.getElem?_append_right (by simp)]; simp] at s2
  obtain ⟨a', us', f, e1, e2, e3, s3⟩ := s1
  cases e1
  rw [hU] at e3
  cases e3
  have ha : a ∈ fp e.length := by rw [e2]; simp
  have af : a ∉ f := by
    have := R.nd e.length
    rw [e2] at this
    exact (List.nodup_cons.mp this).1
  have ag : a ∉ fp (e.length + 1) := fun h => by have := R.dj _ _ a ha h; omega
  refine ⟨fun j => if j = e.length then a :: (f ++ fp (e.length + 1)) else if j < e.length then fp j else [], ?_⟩
  obtain ⟨o1, o2, o3⟩ := R.own _ a ha
  have mem : ∀ {j c}, c ∈ (if j = e.length then a :: (f ++ fp (e.length + 1)) else if j < e.length then fp j else []) → ∃ k, c ∈ fp k ∧ ((j = e.length ∧ (k = e.length ∨ k = e.length + 1)) ∨ (j < e.length ∧ k = j)) := fun {j c} m => by
    split at m
    · rename_i hj
      rcases List.mem_cons.mp m with rfl | m
      · exact ⟨_, ha, .inl ⟨hj, .inl rfl⟩⟩
      · rcases List.mem_append.mp m with m | m
        · exact ⟨_, by rw [e2]; exact List.mem_cons_of_mem _ m, .inl ⟨hj, .inl rfl⟩⟩
        · exact ⟨_, m, .inl ⟨hj, .inr rfl⟩⟩
    · split at m
      · rename_i h; exact ⟨j, m, .inr ⟨h, rfl⟩⟩
      · cases m
  refine ⟨fun c x q => by rw [upd_ne (fun h => by rw [h, o1] at q; cases q)]; exact R.sub c x q, R.ge, fun c x q n => ?_, fun c x q => ?_, R.fresh, by simp [hl], fun j b' q => ?_, fun j q => ?_, fun j c m => ?_, fun j => ?_, fun j k c m m' => ?_, R.shl, fun n l x q q' => ?_, R.shd, R.sh0⟩
  · have h : c ≠ a := fun h => by
      subst h
      rcases o3 with k | k
      · rw [q] at k; cases k
      · exact n k
    rw [upd_ne h]; exact R.frame c x q n
  · by_cases h : c = a
    · subst h; exact ⟨_, upd_same⟩
    · obtain ⟨x', k⟩ := R.dom c x q
      exact ⟨x', by rw [upd_ne h]; exact k⟩
  · have q : (e ++ [B.ms (bs ++ [b])])[j]? = some b' := q
    by_cases hj : j = e.length
    · subst hj
      rw [List.getElem?_append_right (Nat.le_refl _), Nat.sub_self] at q
      cases q
      rw [if_pos rfl, ← hl, slot_app_last]
      refine ⟨a, us ++ [v], f ++ fp (σ.length + 1), rfl, rfl, upd_same, SlotsR.snoc (bs := bs) (f := f) (SlotR.mono (World.le_refl w) (fun c m x k => ?_) (by rw [hl]; exact s2)) (SlotsR.mono (World.le_refl w) (fun c m x k => ?_) s3)⟩
      · rw [hl] at m; rw [upd_ne (fun h => ag (by rw [← h]; exact m))]; exact k
      · rw [upd_ne (fun h => af (by rw [← h]; exact m))]; exact k
    · have hjl : j < e.length := by
        have := (List.getElem?_eq_some_iff.mp q).1
        simp at this
        omega
      rw [List.getElem?_append_left hjl] at q
      rw [if_neg hj, if_pos hjl]
      have := R.slots j b' (by show (e ++ [B.ms bs] ++ [b])[j]? = _; rw [List.append_assoc, List.getElem?_append_left hjl]; exact q)
      rw [show slot (σ ++ [some (V.ref a)] ++ [some v]) j = slot σ j from by unfold slot; rw [List.append_assoc, List.getElem?_append_left (by omega)]] at this
      rw [slot_app_left (by omega)]
      refine SlotR.mono (World.le_refl w) (fun c m x k => ?_) this
      rw [upd_ne (fun h => by have := R.dj _ _ a (by rw [← h]; exact m) ha; omega)]; exact k
  · have q : (e ++ [B.ms (bs ++ [b])])[j]? = none := q
    have := List.getElem?_eq_none_iff.mp q
    simp at this
    rw [if_neg (by omega), if_neg (by omega)]
  · obtain ⟨k, h, _⟩ := mem m
    exact R.own k c h
  · show (if j = e.length then a :: (f ++ fp (e.length + 1)) else if j < e.length then fp j else []).Nodup
    split
    · refine List.nodup_cons.mpr ⟨fun m => ?_, List.nodup_append.mpr ⟨?_, R.nd _, fun x hx y hy h => ?_⟩⟩
      · rcases List.mem_append.mp m with m | m
        · exact af m
        · exact ag m
      · have := R.nd e.length
        rw [e2] at this
        exact (List.nodup_cons.mp this).2
      · subst h
        have := R.dj _ _ x (by rw [e2]; exact List.mem_cons_of_mem _ hx) hy
        omega
    · split
      · exact R.nd _
      · exact List.nodup_nil
  · obtain ⟨x, x1, x2⟩ := mem m
    obtain ⟨y, y1, y2⟩ := mem m'
    have := R.dj x y c x1 y1
    omega
  · refine (R.sh n l x q q').mono (World.le_refl w) fun c m y k => ?_
    rw [upd_ne (fun h => o2 (List.mem_flatten.mpr ⟨l, List.mem_of_getElem? q, by rw [← h]; exact m⟩))]; exact k
end
section
variable {K : PySem.W.Frag} {fr : Fr} {w w1 w2 : World} {σ τ : St} {H H1 H2 : Hp} {e e2 : List B} {bs : List B} {s s2 : List SObj} {fp fp1 fp2 : Nat → List Addr} {b : B} {o : Option V}
/-- .. and where nothing more is made -/
theorem Rel.stay (R1 : Rel K fr w1 (σ ++ τ) H1 ⟨e ++ bs, s⟩ fp1) (hσ : σ.length = e.length) (R2 : Rel K ⟨H1, w1, pfAt w1 fp1 (fun j => j < e.length)⟩ w2 σ H2 ⟨e2, s2⟩ fp2) :
    ∃ fp3, Rel K fr w2 (σ ++ τ) H2 ⟨e2 ++ bs, s2⟩ fp3 := by
  have hl1 : τ.length = bs.length := by have := R1.len; simp at this; omega
  have hl2 : σ.length = e2.length := R2.len
  have R3 : Rel K ⟨H1, w1, pfAt w1 fp1 (fun j => j < e.length)⟩ w2 (σ ++ τ) H2 ⟨e2 ++ List.replicate τ.length .un, s2⟩ (fun j => if j < e2.length then fp2 j else []) := by
    refine R2.reslot (by simp [hl2]) fun j => ?_
    by_cases h : j < e2.length
    · refine .inl ⟨by rw [List.getElem?_append_left h], by unfold slot; rw [List.getElem?_append_left (by omega)], by rw [if_pos h]⟩
    · refine .inr ⟨fun b q => ?_, by rw [if_neg h]⟩
      rw [List.getElem?_append_right (by omega), List.getElem?_replicate] at q
      split at q
      · cases q; rfl
      · cases q
  refine ⟨fun j => if j < e.length then (if j < e2.length then fp2 j else []) else fp1 j, R1.back R3 (by simp; omega) (fun j hj => ⟨?_, rfl, by rw [if_pos hj]⟩) fun j hj => ⟨?_, rfl, by rw [if_neg hj]⟩⟩
  · show _ = (e2 ++ List.replicate τ.length B.un)[j]?
    rw [List.getElem?_append_left (by omega), List.getElem?_append_left (by omega)]
  · show _ = (e ++ bs)[j]?
    rw [List.getElem?_append_right (by omega), List.getElem?_append_right (by omega)]
    congr 1
    omega
theorem Rel.wiped (R : Rel K fr w (σ ++ τ) H ⟨e ++ bs, s⟩ fp) (hσ : σ.length = e.length) (vs : List Nat) : Rel K fr w (wipe σ vs ++ τ) H ⟨wipeE e vs ++ bs, s⟩ (fun j => if j ∈ vs ∧ j < e.length then [] else fp j) := by
  refine R.reslot (by have := R.len; simp at this ⊢; rw [wipe_length, wipeE_length]; exact this) fun j => ?_
  by_cases h : j ∈ vs ∧ j < e.length
  · refine .inr ⟨fun b q => ?_, by rw [if_pos h]⟩
    rw [List.getElem?_append_left (by rw [wipeE_length]; exact h.2), wipeE_get, if_pos h] at q
    cases q
    rfl
  · refine .inl ⟨?_, ?_, by rw [if_neg h]⟩
    · show _ = (e ++ bs)[j]?
      by_cases hj : j < e.length
      · rw [List.getElem?_append_left (by rw [wipeE_length]; exact hj), List.getElem?_append_left hj, wipeE_get, if_neg h]
      · rw [List.getElem?_append_right (by rw [wipeE_length]; omega), List.getElem?_append_right (by omega), wipeE_length]
    · unfold slot
      by_cases hj : j < e.length
      · rw [List.getElem?_append_left (by rw [wipe_length]; omega), List.getElem?_append_left (by omega), wipe_get, if_neg fun k => h ⟨k.1, by omega⟩]
      · rw [List.getElem?_append_right (by rw [wipe_length]; omega), List.getElem?_append_right (by omega), wipe_length]
end
section
variable {F Fb : Fam} {vs : List Nat}
theorem tbd_lcB {wi : TI} {g : TG} {tt : TT} {te : TE} {mi : Mi (List D)} {t : D → Z → Option Z} {c : Mi Bool} {m : Mi B} (hK : Fb.K = F.K) (hi : TID F wi mi) (hg : TGD Fb g t) (hw : Wp vs g) (ht : TTD Fb tt c) (he : TBD Fb te m) : TBD F (tLc wi g tt te vs) (mLcB vs mi t c m) := by
  intro fr w σ H z fp Q R q
  refine hi fr w σ H z fp _ R ((tbd_of q).imp fun ds w1 H1 z1 fp1 R1 l1 k J ok Dd hD => ?_)
  have k := k.2.2
  cases eF : mLcBGo vs t c m ds [] z1 with
  | ex _ _ => simp only [eF] at k; exact k.elim
  | no => simp only [eF] at k; exact k.elim
  | ok accF zF =>
    simp only [eF] at k
    have hn : (wipe σ vs).length = (wipeE z1.e vs).length := by rw [wipe_length, wipeE_length]; exact R1.len
    have RB : Rel F.K ⟨H1, w1, pfAt w1 fp1 (fun j => j ∉ vs)⟩ w1 (wipe σ vs) H1 (z1.wipe vs) (fun j => if j ∈ vs then [] else fp1 j) := by
      refine R1.anew hn (fun i hi => ⟨?_, wipe_slot hi, by rw [if_neg hi]⟩) fun i hi => ⟨fun b e => ?_, ?_⟩
      · show (wipeE z1.e vs)[i]? = _
        rw [wipeE_get, if_neg fun h => hi h.1]
      · have hi : i ∈ vs := Classical.not_not.mp hi
        have e : (wipeE z1.e vs)[i]? = some b := e
        rw [wipeE_get] at e
        by_cases hl : i < z1.e.length
        · rw [if_pos ⟨hi, hl⟩] at e; cases e; rfl
        · rw [if_neg fun h => hl h.2, List.getElem?_eq_none (by omega)] at e; cases e
      · rw [if_pos (Classical.not_not.mp hi)]
    have RB0 := RB.newBlob (b := .ms []) (o := .lst []) hD ⟨Dd, [], [], rfl, rfl, upd_same, rfl, rfl⟩
    let P : Nat → Hp → Prop := fun i H => ∃ w2 zu fp2 acc us, Rel F.K ⟨H1, w1, pfAt w1 fp1 (fun j => j ∉ vs)⟩ w2 (wipe σ vs ++ [some (.ref Dd)]) H ⟨wipeE zu.e vs ++ [.ms acc], zu.s⟩ fp2 ∧ H Dd = some (.lst us) ∧ us.length = acc.length ∧ w1.le w2 ∧ mLcBGo vs t c m (ds.drop i) acc zu = .ok accF zF
    refine ⟨fun i n H => n = ds.length - i ∧ i ≤ ds.length ∧ P i H, ⟨ds.length, by simp, Nat.zero_le _, w1, z1, _, [], [], RB0, upd_same, rfl, World.le_refl w1, by rw [List.drop_zero]; exact eF⟩, ?_⟩
    rintro i n H2 ⟨rfl, hil, w2, zu, fp2, acc, us, R2, hU, hul, l2, eq⟩
    have hnu : (wipe σ vs).length = (wipeE zu.e vs).length := by have := R2.len; simpa using this
    have RT := R2.front hnu
    by_cases hlt : i < ds.length
    · obtain ⟨g1, g2⟩ := (ok _ w2 (wipe σ vs) H2 _ _ RT l2 i).1 ds[i] (List.getElem?_eq_getElem hlt)
      refine .inr ⟨g1, P (i + 1), fun H' h => ⟨ds.length - (i + 1), by omega, rfl, hlt, h⟩, fun x H3 y => ?_⟩
      obtain ⟨w3, R3, l3, r3, _⟩ := g2 x H3 y
      rw [List.drop_eq_getElem_cons hlt] at eq
      have eq : (match t ds[i] (zu.wipe vs) with
        | none => M.R.no
        | some z1 => match c z1 with
          | .ok false z2 => mLcBGo vs t c m (ds.drop (i + 1)) acc z2
          | .ok true z2 => (match m z2 with
            | .ok y z3 => if acc.length < sizeLine then mLcBGo vs t c m (ds.drop (i + 1)) (acc ++ [y]) z3 else .no
            | _ => .no)
          | _ => .no) = .ok accF zF := eq
      cases e1 : t ds[i] (zu.wipe vs) with
      | none => simp only [e1] at eq; cases eq
      | some z3 =>
        simp only [e1] at eq
        refine hw x (wipe σ vs) H3 _ _ (hg _ w3 (wipe σ vs) H3 (zu.wipe vs) z3 _ x ds[i] (fun σ' H' => H' = H3 ∧ ∃ fp4, Rel F.K ⟨H2, w2, pfAt w2 fp2 (fun j => j < (wipeE zu.e vs).length)⟩ w3 σ' H' z3 fp4) (hK ▸ R3) (hK ▸ r3) e1 fun σ4 fp4 R4 => ⟨rfl, fp4, hK ▸ R4⟩) fun σ4 H' ew ⟨eH, fp4, R4⟩ => ?_
        have ew : wipe σ4 vs = wipe σ vs := by rw [ew]; exact wipe_wipe
        subst eH
        refine ⟨ew, ?_⟩
        refine ht _ w3 σ4 H' z3 fp4 _ (hK.symm ▸ R4) ?_
        cases e2 : c z3 with
        | ex _ _ => simp only [e2] at eq; cases eq
        | no => simp only [e2] at eq; cases eq
        | ok b z5 =>
          simp only [e2] at eq
          intro w5 H5 fp5 R5 l5
          have R5 : Rel F.K ⟨H2, w2, pfAt w2 fp2 (fun j => j < (wipeE zu.e vs).length)⟩ w5 σ4 H5 z5 fp5 := hK ▸ R5
          have hw5 : w2.le w5 := World.le_trans l3 l5
          have npf : ¬ pfAt w2 fp2 (fun j => j < (wipeE zu.e vs).length) Dd := fun h => by
            have gD : Dd ∈ fp2 (wipeE zu.e vs).length := by
              have := R2.slots (wipeE zu.e vs).length (.ms acc) (by show (wipeE zu.e vs ++ [B.ms acc])[_]? = _; rw [List.getElem?_append_right (Nat.le_refl _), Nat.sub_self]; rfl)
              rw [← hnu, slot_app_last] at this
              obtain ⟨a', us', f, q1, q2, _⟩ := this
              cases q1
              rw [← hnu, q2]; simp
            rcases h with h | ⟨j, h1, h2⟩
            · exact (R2.own _ _ gD).2.1 h
            · have := R2.dj _ _ _ h2 gD
              omega
          cases b with
          | false =>
            rw [if_neg Bool.false_ne_true]
            have R6 := Rel.wiped (τ := []) (bs := []) (e := z5.e) (s := z5.s) (σ := σ4) (by simpa using R5) R5.len vs
            rw [List.append_nil, List.append_nil, ew] at R6
            obtain ⟨fp7, R7⟩ := R2.stay hnu R6
            exact ⟨w5, z5, fp7, acc, us, R7, R5.frame _ _ hU npf, hul, World.le_trans l2 hw5, eq⟩
          | true =>
            rw [if_pos rfl]
            refine he _ w5 σ4 H5 z5 fp5 _ (hK.symm ▸ R5) ?_
            cases e3 : m z5 with
            | ex _ _ => simp only [e3] at eq; cases eq
            | no => simp only [e3] at eq; cases eq
            | ok y z6 =>
              simp only [e3] at eq
              by_cases hsz : acc.length < sizeLine
              · rw [if_pos hsz] at eq
                intro v w6 H6 fp6 R6 l6
                have R6 : Rel F.K ⟨H2, w2, pfAt w2 fp2 (fun j => j < (wipeE zu.e vs).length)⟩ w6 (σ4 ++ [some v]) H6 ⟨z6.e ++ [y], z6.s⟩ fp6 := hK ▸ R6
                have hw6 : w2.le w6 := World.le_trans hw5 l6
                have h4 : σ4.length = z6.e.length := by have := R6.len; simpa using this
                have R7 := R6.wiped h4 vs
                rw [ew] at R7
                obtain ⟨fp8, R8⟩ := R2.pend hnu R7
                have hU6 := R6.frame _ _ hU npf
                obtain ⟨fp9, R9⟩ := R8.absorb hU6
                refine ⟨us, hU6, by rw [hul]; exact hsz, w6, z6, fp9, acc ++ [y], us ++ [v], R9, upd_same, by simp [hul], World.le_trans l2 hw6, eq⟩
              · rw [if_neg hsz] at eq; cases eq
    · have e : i = ds.length := by omega
      subst e
      rw [List.drop_length] at eq
      cases eq
      refine .inl ⟨(ok _ w2 (wipe σ vs) H2 _ _ RT l2 _).2 (by simp) rfl, ?_⟩
      have hlen : zF.e.length = z1.e.length := by
        rw [wipe_length, R1.len, wipeE_length] at hnu
        exact hnu.symm
      -- the new list stays behind the slots, the others come back
      have R3 : Rel F.K ⟨H1, w1, pfAt w1 fp1 (fun j => j ∉ vs ∨ j = z1.e.length)⟩ w2 (wipe σ vs ++ [some (.ref Dd)]) H2 ⟨wipeE zF.e vs ++ [.ms accF], zF.s⟩ fp2 := by
        have ef : pfAt w1 fp1 (fun j => j ∉ vs ∨ j = z1.e.length) = pfAt w1 fp1 (fun j => j ∉ vs) := by
          funext ad
          apply propext
          constructor
          · rintro (h | ⟨j, h1 | h1, h2⟩)
            · exact .inl h
            · exact .inr ⟨j, h1, h2⟩
            · rw [R1.away j (List.getElem?_eq_none (by omega))] at h2
              cases h2
          · rintro (h | ⟨j, h1, h2⟩)
            · exact .inl h
            · exact .inr ⟨j, .inl h1, h2⟩
        rw [ef]
        exact R2
      have R9 := R1.back R3 (e := backE z1.e zF.e vs ++ [.ms accF]) (σ2 := σ ++ [some (.ref Dd)]) (fp2 := fun j => if j ∉ vs ∨ j = z1.e.length then fp2 j else fp1 j) (by simp [backE_length, R1.len, hlen]) (fun j hj => ⟨?_, ?_, by rw [if_pos hj]⟩) fun j hj => ⟨?_, ?_, by rw [if_neg hj]⟩
      · exact k (.ref Dd) w2 H2 _ R9 l2
      · show _ = (wipeE zF.e vs ++ [B.ms accF])[j]?
        by_cases h : j < zF.e.length
        · rw [List.getElem?_append_left (by rw [backE_length]; exact h), List.getElem?_append_left (by rw [wipeE_length]; exact h), backE_get hlen.symm, wipeE_get]
          have hv : j ∉ vs := hj.elim id fun e => by omega
          rw [if_neg hv, if_neg fun h => hv h.1]
        · rw [List.getElem?_append_right (by rw [backE_length]; omega), List.getElem?_append_right (by rw [wipeE_length]; omega), backE_length, wipeE_length]
      · unfold slot
        by_cases h : j < σ.length
        · rw [List.getElem?_append_left h, List.getElem?_append_left (by rw [wipe_length]; exact h)]
          have hv : j ∉ vs := hj.elim id fun e => by have := R1.len; omega
          rw [wipe_get, if_neg fun h => hv h.1]
        · rw [List.getElem?_append_right (by omega), List.getElem?_append_right (by rw [wipe_length]; omega), wipe_length]
      · have hv : j ∈ vs := Classical.not_not.mp fun h => hj (.inl h)
        have hne : j ≠ z1.e.length := fun h => hj (.inr h)
        by_cases h : j < zF.e.length
        · rw [List.getElem?_append_left (by rw [backE_length]; exact h), backE_get hlen.symm, if_pos hv]
        · rw [List.getElem?_append_right (by rw [backE_length]; omega), List.getElem?_eq_none (by simp [backE_length]; omega), List.getElem?_eq_none (by omega)]
      · have hne : j ≠ z1.e.length := fun h => hj (.inr h)
        by_cases h : j < σ.length
        · unfold slot; rw [List.getElem?_append_left h]
        · rw [slot_out (σ := σ) (by omega), slot_out (by simp; have := R1.len; omega)]
end
section
variable {F : Fam} {m : Mi B} {pos : Pos}
theorem sb_lcB {elt tg iter : Expr} {ifs : List Expr} {scope : Scope} {own : List (Str × Nat)} {mi : Mi (List D)} {t : D → Z → Option Z} {c : Mi Bool} (hi : SI F tg iter mi) (ok : BlkOk F.N F.sc scope own) (hg : SGW (F.blk scope) (own.map (·.2)) tg t) (ht : STs (F.blk scope) ifs c) (he : SB (F.blk scope) elt m) (hc : F.cal = true := by rfl)
    (hs : ∀ env x, foldedSetIterable iter env x = pure x := by intro _ _; rfl) : SB F (.ListComp elt [⟨tg, iter, ifs, 0⟩] scope pos) (mLcB (own.map (·.2)) mi t c m) := by
  obtain ⟨wi, i1, i2⟩ := hi.ex
  obtain ⟨g, g1, g2, g3⟩ := hg.ex
  obtain ⟨tt, t1, t2⟩ := ht.ex
  obtain ⟨te, e1, e2⟩ := he.ex
  exact ⟨_, fun X hX => pe_lc (F.calm X hX hc) (F_nd hX) (i1 X hX) (blk_ok hX ok) (fun s H C cl fp => g1 _ ⟨X, hX, s, H, C, cl, fp, rfl⟩) (fun s H C cl fp => t1 _ ⟨X, hX, s, H, C, cl, fp, rfl⟩) (fun s H C cl fp => e1 _ ⟨X, hX, s, H, C, cl, fp, rfl⟩) (hs X.env),
    tbd_lcB (Fb := F.blk scope) rfl i2 g2 g3 t2 e2⟩
theorem ss_ownLcB (i : Nat) {x : Str} {p : Pos} {elt tg iter : Expr} {ifs : List Expr} {scope : Scope} {own : List (Str × Nat)} {mi : Mi (List D)} {t : D → Z → Option Z} {c : Mi Bool} {spos : Pos} (hi : SI F tg iter mi) (ok : BlkOk F.N F.sc scope own) (hg : SGW (F.blk scope) (own.map (·.2)) tg t) (ht : STs (F.blk scope) ifs c) (he : SB (F.blk scope) elt m)
    (hsw : ∀ env : Env, env.scope = F.sc → swapsWith (.ListComp elt [⟨tg, iter, ifs, 0⟩] scope pos) (some (.Name x p)) spos.line env = pure true) (hc : F.cal = true := by rfl) (hN : F.N[i]? = some x := by rfl) (hl : F.sc.names.lookup x = some .local := by rfl) (hs : ∀ env x, foldedSetIterable iter env x = pure x := by intro _ _; rfl) :
    SS F (.Assign [.Name x p] (.ListComp elt [⟨tg, iter, ifs, 0⟩] scope pos) spos) (mOwn i (mLcB (own.map (·.2)) mi t c m)) := by
  obtain ⟨wi, i1, i2⟩ := hi.ex
  obtain ⟨g, g1, g2, g3⟩ := hg.ex
  obtain ⟨tt, t1, t2⟩ := ht.ex
  obtain ⟨te, e1, e2⟩ := he.ex
  refine ⟨_, fun X hX => ?_, tsd_own i (tbd_lcB (Fb := F.blk scope) rfl i2 g2 g3 t2 e2)⟩
  obtain ⟨q1, q2, q3, q4, q5, q6, q7, q8⟩ := F.eqs X hX
  exact ps_setLc (F.calm X hX hc) (F_nd hX) (by rw [q6]; exact hN) (by rw [q7]; exact hl) (hsw X.env q7) (i1 X hX) (blk_ok hX ok) (fun s H C cl fp => g1 _ ⟨X, hX, s, H, C, cl, fp, rfl⟩) (fun s H C cl fp => t1 _ ⟨X, hX, s, H, C, cl, fp, rfl⟩) (fun s H C cl fp => e1 _ ⟨X, hX, s, H, C, cl, fp, rfl⟩) (hs X.env)
end
end M
namespace M
open PySem L2
open PyProof.Rows (envOfC)

/-! ## dicts with keys that are ints or texts -/
def toKey : D → Option Key
  | .int i => some (.inl i)
  | .str s => some (.inr s)
  | _ => none
def getK : List Key → List D → Key → Option D
  | k :: ks, d :: ds, q => if k = q then some d else getK ks ds q
  | _, _, _ => none
def hasK (ks : List Key) (q : Key) : Bool := ks.any fun k => decide (k = q)
def putKs (ks : List Key) (q : Key) : List Key := if hasK ks q = true then ks else ks ++ [q]
def repl : List Key → List D → Key → D → List D
  | k :: ks, d :: ds, q, x => (if k = q then x else d) :: repl ks ds q x
  | _, _, _, _ => []
def putDs (ks : List Key) (ds : List D) (q : Key) (x : D) : List D := if hasK ks q = true then repl ks ds q x else ds ++ [x]
section
variable {K : PySem.W.Frag} {w : World} {v : V} {d : D} {q : Key}
theorem toKey_kV {H : Hp} {x : V} {a : D} (h : RepN K w H x a) (e : toKey a = some q) : x = kV q := by
  cases a with
  | int i => cases e; exact h.int
  | str s => cases e; exact h.str
  | _ => cases e
theorem getK_val : ∀ {kvs : List (Key × V)} {ds : List D}, RepL K w (kvs.map (·.2)) ds → getK (kvs.map (·.1)) ds q = some d → ∃ v, valV kvs q = some v ∧ Rep K w v d
  | [], _, h, e => by cases h; cases e
  | (k, v) :: r, _, h, e => by
    cases h with
    | cons h1 h2 =>
      rename_i d' ds
      have e : (if k = q then some d' else getK (r.map (·.1)) ds q) = some d := e
      by_cases hk : k = q
      · rw [if_pos hk] at e
        cases e
        exact ⟨v, valV_pos hk, h1⟩
      · rw [if_neg hk] at e
        obtain ⟨u, u1, u2⟩ := getK_val h2 e
        exact ⟨u, by rw [valV_neg hk]; exact u1, u2⟩
theorem getK_none : ∀ {kvs : List (Key × V)} {ds : List D}, RepL K w (kvs.map (·.2)) ds → getK (kvs.map (·.1)) ds q = none → valV kvs q = none
  | [], _, h, e => rfl
  | (k, v) :: r, _, h, e => by
    cases h with
    | cons h1 h2 =>
      rename_i d' ds
      have e : (if k = q then some d' else getK (r.map (·.1)) ds q) = none := e
      by_cases hk : k = q
      · rw [if_pos hk] at e; cases e
      · rw [if_neg hk] at e
        rw [valV_neg hk]
        exact getK_none h2 e
theorem any_has (kvs : List (Key × V)) : (kvs.any fun kv => decide (kv.1 = q)) = hasK (kvs.map (·.1)) q := by
  unfold hasK
  rw [List.any_map]
  rfl
theorem repl_rep (rv : Rep K w v d) : ∀ {kvs : List (Key × V)} {ds : List D}, RepL K w (kvs.map (·.2)) ds → RepL K w ((kvs.map fun kv => if kv.1 = q then (kv.1, v) else kv).map (·.2)) (repl (kvs.map (·.1)) ds q d)
  | [], _, h => by cases h; exact .nil
  | (k, u) :: r, _, h => by
    cases h with
    | cons h1 h2 =>
      rename_i d' ds
      rw [List.map_cons, List.map_cons, List.map_cons]
      refine .cons ?_ (repl_rep rv h2)
      by_cases hk : k = q
      · rw [if_pos hk, if_pos hk]; exact rv
      · rw [if_neg hk, if_neg hk]; exact h1
theorem put_keys (kvs : List (Key × V)) : (putK kvs q v).map (·.1) = putKs (kvs.map (·.1)) q := by
  unfold putK putKs
  rw [any_has]
  by_cases h : hasK (kvs.map (·.1)) q = true
  · rw [if_pos h, if_pos h, List.map_map]
    refine List.map_congr_left fun x _ => ?_
    show (if x.1 = q then (x.1, v) else x).1 = x.1
    split <;> rfl
  · rw [if_neg h, if_neg h, List.map_append]
    rfl
theorem put_rep {kvs : List (Key × V)} {ds : List D} (h : RepL K w (kvs.map (·.2)) ds) (rv : Rep K w v d) : RepL K w ((putK kvs q v).map (·.2)) (putDs (kvs.map (·.1)) ds q d) := by
  unfold putK putDs
  rw [any_has]
  by_cases h1 : hasK (kvs.map (·.1)) q = true
  · rw [if_pos h1, if_pos h1]
    exact repl_rep rv h
  · rw [if_neg h1, if_neg h1, List.map_append]
    exact h.append (.one rv)
end
section
variable {F : Fam} {e e' : Expr} {pos : Pos} {m m' : Mi D} {x : Str} {p : Pos}
def rDGet : R2 := fun x y H Q => ∃ a v, x = .ref a ∧ DGet H a y (some v) ∧ Q v H
def gDGet : D → D → Option D
  | .dic ks ds, k => (toKey k).bind fun q => getK ks ds q
  | _, _ => none
theorem opn_dget : OpN F rDGet gDGet := by
  intro fr w σ H z fp x y a b d Q R ra rb e q
  cases a with
  | dic ks ds =>
    have e : ((toKey b).bind fun q => getK ks ds q) = some d := e
    cases e1 : toKey b with
    | none => rw [e1] at e; cases e
    | some k =>
      rw [e1] at e
      obtain ⟨a', kvs, rfl, h1, rfl, h3⟩ := ra.dic R
      obtain ⟨v, v1, v2⟩ := getK_val h3 e
      refine ⟨a', v, rfl, ?_, q v w H fp R (World.le_refl w) v2⟩
      rw [toKey_kV rb e1, ← v1]
      exact .k h1
  | _ => cases e
theorem se_dget (ha : SE F e m) (hb : SN F e' m') (hc : F.cal = true := by rfl) (hs : NoSl e' := by exact fun _ _ => rfl) : SE F (.Subscript e e' pos) (mOp gDGet m m') := by
  obtain ⟨ta, a1, a2⟩ := ha.ex
  obtain ⟨tb, b1, b2⟩ := hb.ex
  exact ⟨tOp rDGet ta tb, fun X hX => pe_dget (hu_of (F.room X hX hc)) (a1 X hX) (b1 X hX) hs, ted_op opn_dget a2 b2⟩
theorem se_dgetP (i : Nat) (hb : SN F e' m') (hc : F.cal = true := by rfl) (hs : NoSl e' := by exact fun _ _ => rfl) (hN : F.N[i]? = some x := by rfl) (hv : Vis F.sc x := by first | exact Or.inl rfl | exact Or.inr (Or.inl rfl) | exact Or.inr (Or.inr rfl)) (hd : (x == ("__debug__" : Str)) = false := by decide) (hcd : (x == ("__classdict__" : Str)) = false := by decide) :
    SE F (.Subscript (.Name x p) e' pos) (mOpP gDGet i m') := by
  obtain ⟨tb, b1, b2⟩ := hb.ex
  exact ⟨tOp rDGet (tVar i) tb, fun X hX => pe_dget (hu_of (F.room X hX hc)) (pe_name hX i hN hv hd hcd) (b1 X hX) hs, ted_opP i opn_dget b2⟩
def rDIn (f : Bool → Bool) : R2 := fun y x H Q => ∃ a o, x = .ref a ∧ DGet H a y o ∧ Q (.bl (f o.isSome)) H
def gDIn (f : Bool → Bool) : D → D → Option D
  | k, .dic ks ds => (toKey k).map fun q => .bl (f (getK ks ds q).isSome)
  | _, _ => none
theorem opn_din (f : Bool → Bool) : OpN F (rDIn f) (gDIn f) := by
  intro fr w σ H z fp x y a b d Q R ra rb e q
  cases b with
  | dic ks ds =>
    have e : ((toKey a).map fun q => D.bl (f (getK ks ds q).isSome)) = some d := by cases a <;> exact e
    cases e1 : toKey a with
    | none => rw [e1] at e; cases e
    | some k =>
      rw [e1] at e
      cases e
      obtain ⟨a', kvs, rfl, h1, rfl, h3⟩ := rb.dic R
      refine ⟨a', valV kvs k, rfl, ?_, ?_⟩
      · rw [toKey_kV ra e1]
        exact .k h1
      · cases e2 : getK (kvs.map (·.1)) ds k with
        | none =>
          simp only [e2] at q
          rw [getK_none h3 e2]
          exact q _ w H fp R (World.le_refl w) (.bl _)
        | some d' =>
          simp only [e2] at q
          obtain ⟨v, v1, v2⟩ := getK_val h3 e2
          rw [v1]
          exact q _ w H fp R (World.le_refl w) (.bl _)
  | _ => cases a <;> cases e
theorem se_din (ha : SE F e m) (hb : SN F e' m') (hc : F.cal = true := by rfl) (hm : behindInMarks .In e' = false := by with_unfolding_all rfl) : SE F (.Compare e [.In] [e'] pos) (mOp (gDIn id) m m') := by
  obtain ⟨ta, a1, a2⟩ := ha.ex
  obtain ⟨tb, b1, b2⟩ := hb.ex
  exact ⟨tOp (rDIn id) ta tb, fun X hX => pe_cmp (pc_din (hu_of (F.room X hX hc)) (a1 X hX) (b1 X hX)) hm, ted_op (opn_din id) a2 b2⟩
theorem se_dnotin (ha : SE F e m) (hb : SN F e' m') (hc : F.cal = true := by rfl) (hm : behindInMarks .NotIn e' = false := by with_unfolding_all rfl) : SE F (.Compare e [.NotIn] [e'] pos) (mOp (gDIn not) m m') := by
  obtain ⟨ta, a1, a2⟩ := ha.ex
  obtain ⟨tb, b1, b2⟩ := hb.ex
  exact ⟨tOp (rDIn not) ta tb, fun X hX => pe_cmp (pc_dnotin (hu_of (F.room X hX hc)) (a1 X hX) (b1 X hX)) hm, ted_op (opn_din not) a2 b2⟩
/-- d.get(k), d a name -/
def gDGet1 : D → D → Option D
  | .dic ks ds, k => (toKey k).map fun q => (getK ks ds q).getD .non
  | _, _ => none
def mGet1 (i : Nat) (m : Mi D) : Mi D := fun z => match (z.e[i]?).bind pk with
  | some (.dic _ _) => mBind m (fun k => mBind (mPk i) fun a => mLift (gDGet1 a k)) z
  | _ => .no
theorem se_get1 (i : Nat) {apos cpos : Pos} (hb : SE F e m) (hc : F.cal = true := by rfl) (hN : F.N[i]? = some x := by rfl) (hv : Vis F.sc x := by first | exact Or.inl rfl | exact Or.inr (Or.inl rfl) | exact Or.inr (Or.inr rfl)) (hd : (x == ("__debug__" : Str)) = false := by decide) (hcd : (x == ("__classdict__" : Str)) = false := by decide)
    (hs : ∀ env, starEach [e] env = [(false, eval e env)] := by intro _; rfl) (hline : (apos.endLine == cpos.line) = true := by rfl) : SE F (.Call (.Attribute (.Name x p) ("get" : Str) apos) [e] [] cpos) (mGet1 i m) := by
  obtain ⟨tb, b1, b2⟩ := hb.ex
  refine ⟨_, fun X hX => pe_dget1 (hu_of (F.room X hX hc)) (pe_name hX i hN hv hd hcd) (b1 X hX) ⟨rfl, by rw [hs]; rfl, hline, by rw [hs]; rfl⟩, fun fr w σ H z fp Q R q => ?_⟩
  unfold mGet1 at q
  cases e0 : (z.e[i]?).bind pk with
  | none => rw [e0] at q; exact q.elim
  | some d0 =>
    rw [e0] at q
    cases d0 with
    | dic ks0 ds0 =>
      obtain ⟨v0, s0, r0⟩ := pk_there R e0
      obtain ⟨a, kvs0, rfl, h0, _⟩ := r0.dic R
      refine ⟨.ref a, slot_get s0, a, rfl, .inl ⟨kvs0, .inl h0⟩, ?_⟩
      refine b2 fr w σ H z fp _ R ((Ens.cut q).imp fun k w1 H1 z1 fp1 R1 l1 kk y ry => ?_)
      have kk := kk.2.2
      unfold mBind mPk at kk
      cases e1 : (z1.e[i]?).bind pk with
      | none => rw [e1] at kk; exact kk.elim
      | some d1 =>
        rw [e1] at kk
        obtain ⟨v1, s1, r1⟩ := pk_there R1 e1
        rw [s0] at s1
        cases s1
        have kk : Ens F fr w1 σ (mLift (gDGet1 d1 k) z1) _ := kk
        cases e2 : gDGet1 d1 k with
        | none => rw [e2] at kk; exact kk.elim
        | some d =>
          rw [e2] at kk
          cases d1 with
          | dic ks ds =>
            have e2 : ((toKey k).map fun q => (getK ks ds q).getD .non) = some d := e2
            cases e3 : toKey k with
            | none => rw [e3] at e2; cases e2
            | some kq =>
              rw [e3] at e2
              cases e2
              obtain ⟨a', kvs, ea, h1, rfl, h3⟩ := r1.dic R1
              cases ea
              refine ⟨valV kvs kq, ?_, ?_⟩
              · rw [toKey_kV (H := H1) (.of ry) e3]; exact .k h1
              · cases e4 : getK (kvs.map (·.1)) ds kq with
                | none => simp only [e4] at kk; rw [getK_none h3 e4]; exact kk w1 H1 fp1 R1 (World.le_refl w1) _ .non
                | some d' =>
                  simp only [e4] at kk
                  obtain ⟨v, v1, v2⟩ := getK_val h3 e4
                  rw [v1]
                  exact kk w1 H1 fp1 R1 (World.le_refl w1) _ v2
          | _ => cases e2
    | _ => exact q.elim
/-- d[k] = v, d a name that owns it -/
theorem slot_md {K : PySem.W.Frag} {fr : Fr} {w : World} {σ : St} {H : Hp} {z : Z} {fp : Nat → List Addr} {i : Nat} {ks : List Key} {ds : List D} (R : Rel K fr w σ H z fp) (e : z.e[i]? = some (.md ks ds)) : ∃ a kvs, slot σ i = some (.ref a) ∧ fp i = [a] ∧ H a = some (.dK kvs) ∧ kvs.map (·.1) = ks ∧ RepL K w (kvs.map (·.2)) ds := R.slots i _ e
def mDPut (i : Nat) (mk mv : Mi D) : Mi Fl := mBind mv fun v z => match z.e[i]? with
  | some (.md _ _) => mBind mk (fun k z' => match z'.e[i]?, toKey k with
    | some (.md ks ds), some q => if ks.length < sizeLine then .ok .nx ⟨z'.e.set i (.md (putKs ks q) (putDs ks ds q v)), z'.s⟩ else .no
    | _, _ => .no) z
  | _ => .no
theorem ss_dput (i : Nat) {ev ek : Expr} {mv mk : Mi D} {p2 : Pos} (hv' : SE F ev mv) (hk : SE F ek mk) (hc : F.cal = true := by rfl) (hN : F.N[i]? = some x := by rfl) (hv : Vis F.sc x := by first | exact Or.inl rfl | exact Or.inr (Or.inl rfl) | exact Or.inr (Or.inr rfl)) (hd : (x == ("__debug__" : Str)) = false := by decide) (hcd : (x == ("__classdict__" : Str)) = false := by decide)
    (hs : ∀ env, swapsWith ev (some (.Subscript (.Name x p) ek p2)) pos.line env = pure false := by intro _; rfl) : SS F (.Assign [.Subscript (.Name x p) ek p2] ev pos) (mDPut i mk mv) := by
  obtain ⟨tv, v1, v2⟩ := hv'.ex
  obtain ⟨tk, k1, k2⟩ := hk.ex
  refine ⟨_, fun X hX => ps_dput (hu_of (F.room X hX hc)) (pe_name hX i hN hv hd hcd) (k1 X hX) (v1 X hX) (hs X.env), fun fr w σ H z fp E R q => ?_⟩
  refine v2 fr w σ H z fp _ R (q.cut.imp fun dv w1 H1 z1 fp1 R1 l1 k v rv => ?_)
  have k := k.2.2
  cases e0 : z1.e[i]? with
  | none => rw [e0] at k; exact k.elim
  | some b0 =>
    cases b0 with
    | md ks0 ds0 =>
      simp only [e0] at k
      obtain ⟨a, kvs0, s0, f0, h0, _⟩ := slot_md R1 e0
      refine ⟨.ref a, slot_get s0, ?_⟩
      refine k2 fr w1 σ H1 z1 fp1 _ R1 (k.cut.imp fun dk w2 H2 z2 fp2 R2 l2 k y ry => ?_)
      have k := k.2.2
      cases e1 : z2.e[i]? with
      | none => simp only [e1] at k; exact k.elim
      | some b1 =>
        cases b1 with
        | md ks ds =>
          cases e2 : toKey dk with
          | none => simp only [e1, e2] at k; exact k.elim
          | some kq =>
            simp only [e1, e2] at k
            obtain ⟨a', kvs, s1, f1, h1, rfl, h3⟩ := slot_md R2 e1
            rw [s0] at s1
            cases s1
            by_cases hl : (kvs.map (·.1)).length < sizeLine
            · rw [if_pos hl] at k
              refine ⟨a, _, rfl, ?_, k σ w2 _ fp2 (R2.write (a := a) (u := .dK (putK kvs kq v)) (by rw [f1]; simp) (List.getElem?_eq_some_iff.mp e1).1 ⟨a, _, s0, f1, upd_same, put_keys kvs, put_rep h3 (rv.mono l2)⟩) (World.le_refl w2)⟩
              rw [toKey_kV (H := H2) (.of ry) e2]
              exact .k h1 (by rw [List.length_map] at hl; exact hl)
            · rw [if_neg hl] at k; exact k.elim
        | _ => simp only [e1] at k; exact k.elim
    | _ => simp only [e0] at k; exact k.elim
/-- d[k] op= v -/
def mDAug (g : Int → Int → Int) (i : Nat) (mk mv : Mi D) : Mi Fl := fun z => match z.e[i]? with
  | some (.md _ _) => mBind mk (fun k z1 => match z1.e[i]?, toKey k with
    | some (.md ks ds), some q => (match getK ks ds q with
      | some (.int n) => mBind mv (fun v z2 => match z2.e[i]?, v with
        | some (.md ks2 ds2), .int n2 => if ks2.length < sizeLine then .ok .nx ⟨z2.e.set i (.md (putKs ks2 q) (putDs ks2 ds2 q (.int (g n n2)))), z2.s⟩ else .no
        | _, _ => .no) z1
      | _ => .no)
    | _, _ => .no) z
  | _ => .no
theorem ss_daug (i : Nat) {op : Operator} {g : Int → Int → Int} {ev ek : Expr} {mv mk : Mi D} {p2 : Pos} (hop : ∀ X, F.C X → InOp X op (fun x y H Q => ∃ i j, x = .int i ∧ y = .int j ∧ Q (.int (g i j)) H)) (hk : SE F ek mk) (hv' : SE F ev mv) (hc : F.cal = true := by rfl) (hN : F.N[i]? = some x := by rfl) (hv : Vis F.sc x := by first | exact Or.inl rfl | exact Or.inr (Or.inl rfl) | exact Or.inr (Or.inr rfl)) (hd : (x == ("__debug__" : Str)) = false := by decide) (hcd : (x == ("__classdict__" : Str)) = false := by decide)
    (ha : ∀ ov iv new, augStore ek ov iv new = (do holding [new, ov, iv] (setItem ov iv new); release [new, ov, iv] []; pure .next) := by intro _ _ _; rfl) : SS F (.AugAssign (.Subscript (.Name x p) ek p2) op ev pos) (mDAug g i mk mv) := by
  obtain ⟨tv, v1, v2⟩ := hv'.ex
  obtain ⟨tk, k1, k2⟩ := hk.ex
  refine ⟨_, fun X hX => ps_daug (hu_of (F.room X hX hc)) (pe_name hX i hN hv hd hcd) (k1 X hX) (v1 X hX) (hop X hX) ha, fun fr w σ H z fp E R q => ?_⟩
  unfold mDAug at q
  cases e0 : z.e[i]? with
  | none => simp only [e0] at q; exact q.elim
  | some b0 =>
    cases b0 with
    | md ks0 ds0 =>
      simp only [e0] at q
      obtain ⟨a, kvs0, s0, f0, h0, _⟩ := slot_md R e0
      refine ⟨.ref a, slot_get s0, ?_⟩
      refine k2 fr w σ H z fp _ R ((EnsS.cut q).imp fun dk w1 H1 z1 fp1 R1 l1 k y ry => ?_)
      have k := k.2.2
      cases e1 : z1.e[i]? with
      | none => simp only [e1] at k; exact k.elim
      | some b1 =>
        cases b1 with
        | md ks ds =>
          cases e2 : toKey dk with
          | none => simp only [e1, e2] at k; exact k.elim
          | some kq =>
            simp only [e1, e2] at k
            obtain ⟨a', kvs, s1, f1, h1, rfl, h3⟩ := slot_md R1 e1
            rw [s0] at s1
            cases s1
            cases e3 : getK (kvs.map (·.1)) ds kq with
            | none => simp only [e3] at k; exact k.elim
            | some d3 =>
              cases d3 with
              | int n =>
                simp only [e3] at k
                obtain ⟨u, u1, u2⟩ := getK_val h3 e3
                cases u2
                refine ⟨a, .int n, rfl, by rw [toKey_kV (H := H1) (.of ry) e2, ← u1]; exact .k h1, ?_⟩
                refine v2 fr w1 σ H1 z1 fp1 _ R1 ((EnsS.cut k).imp fun dv w2 H2 z2 fp2 R2 l2 k v rv => ?_)
                have k := k.2.2
                cases e4 : z2.e[i]? with
                | none => simp only [e4] at k; exact k.elim
                | some b4 =>
                  cases b4 with
                  | md ks2 ds2 =>
                    cases dv with
                    | int n2 =>
                      simp only [e4] at k
                      cases rv
                      obtain ⟨a', kvs2, s2, f2, h2, rfl, h5⟩ := slot_md R2 e4
                      rw [s0] at s2
                      cases s2
                      by_cases hl : (kvs2.map (·.1)).length < sizeLine
                      · rw [if_pos hl] at k
                        refine ⟨n, n2, rfl, rfl, _, ?_, k σ w2 _ fp2 (R2.write (a := a) (u := .dK (putK kvs2 kq (.int (g n n2)))) (by rw [f2]; simp) (List.getElem?_eq_some_iff.mp e4).1 ⟨a, _, s0, f2, upd_same, put_keys kvs2, put_rep h5 (.int _)⟩) (World.le_refl w2)⟩
                        rw [toKey_kV (H := H1) (.of ry) e2]
                        exact .k h2 (by rw [List.length_map] at hl; exact hl)
                      · rw [if_neg hl] at k; exact k.elim
                    | _ => simp only [e4] at k; exact k.elim
                  | _ => simp only [e4] at k; exact k.elim
              | _ => simp only [e3] at k; exact k.elim
        | _ => simp only [e1] at k; exact k.elim
    | _ => simp only [e0] at q; exact q.elim
/-- {} -/
theorem sb_dnew : SB F (.Dict [] [] pos) (mPure (.md [] [])) :=
  ⟨_, fun _ _ => pe_dnewK, fun fr w σ H z fp Q R q p hp => q _ _ _ _ (R.newDict (kvs := []) (ds := []) hp .nil) (World.le_refl w)⟩
/-! ## x op= e, a name that holds an int -/
def mAug (g : Int → Int → Int) (i : Nat) (m : Mi D) : Mi Fl := fun z => match z.e[i]? with
  | some (.v (.int n)) => mBind m (fun d z' => match d with
    | .int k => .ok .nx ⟨z'.e.set i (.v (.int (g n k))), z'.s⟩
    | _ => .no) z
  | _ => .no
theorem ss_aug (i : Nat) {op : Operator} {g : Int → Int → Int} (ho : ∀ X, F.C X → PIp X op (ipI g)) (h : SE F e m) (hN : F.N[i]? = some x := by rfl) (hl : Loc F.sc x := by first | exact Or.inl rfl | exact Or.inr rfl) (hf : F.fn x = true ∨ F.sc.names.lookup x = some .local := by first | exact .inl rfl | exact .inr rfl) : SS F (.AugAssign (.Name x p) op e pos) (mAug g i m) := by
  obtain ⟨te, h1, h2⟩ := h.ex
  refine ⟨_, fun X hX => ps_aug (F_nd hX) (by rw [(F.eqs X hX).2.2.2.2.2.1]; exact hN) (loc_ok hX hl) (h1 X hX) (ho X hX) (fn_ok hX hf), fun fr w σ H z fp E R q => ?_⟩
  unfold mAug at q
  cases e0 : z.e[i]? with
  | none => simp only [e0] at q; exact q.elim
  | some b0 =>
    cases b0 with
    | v d0 =>
      cases d0 with
      | int n =>
        simp only [e0] at q
        obtain ⟨_, v0, s0, r0⟩ := R.slots i _ e0
        cases r0
        refine ⟨.int n, slot_get s0, ?_⟩
        refine h2 fr w σ H z fp _ R ((EnsS.cut q).imp fun d w1 H1 z1 fp1 R1 l1 k v rv => ?_)
        have k := k.2.2
        cases d with
        | int j =>
          cases rv
          exact ⟨n, j, rfl, rfl, k _ w1 H1 _ (R1.store i (.int _)) (World.le_refl w1)⟩
        | _ => exact k.elim
      | _ => simp only [e0] at q; exact q.elim
    | _ => simp only [e0] at q; exact q.elim
theorem ss_augAdd (i : Nat) (h : SE F e m) (hN : F.N[i]? = some x := by rfl) (hl : Loc F.sc x := by first | exact Or.inl rfl | exact Or.inr rfl) (hf : F.fn x = true ∨ F.sc.names.lookup x = some .local := by first | exact .inl rfl | exact .inr rfl) : SS F (.AugAssign (.Name x p) .Add e pos) (mAug (fun a b => a + b) i m) :=
  ss_aug i (fun _ _ => ip_add) h hN hl hf
theorem ss_augSub (i : Nat) (h : SE F e m) (hN : F.N[i]? = some x := by rfl) (hl : Loc F.sc x := by first | exact Or.inl rfl | exact Or.inr rfl) (hf : F.fn x = true ∨ F.sc.names.lookup x = some .local := by first | exact .inl rfl | exact .inr rfl) : SS F (.AugAssign (.Name x p) .Sub e pos) (mAug (fun a b => a - b) i m) :=
  ss_aug i (fun _ _ => ip_sub) h hN hl hf
/-! ## f(k = v, ..) -/
def mPerm (pm : List Nat) (ds : List D) : List D := pm.map fun j => ds.getD j .non
theorem RepL.perm {K : PySem.W.Frag} {w : World} {vs : List V} {ds : List D} (h : RepL K w vs ds) : ∀ pm : List Nat, RepL K w (pm.map fun j => vs.getD j .non) (mPerm pm ds)
  | [] => .nil
  | j :: pm => by
    refine .cons ?_ (RepL.perm h pm)
    show Rep K w (vs.getD j .non) (ds.getD j .non)
    rw [List.getD_eq_getElem?_getD, List.getD_eq_getElem?_getD]
    cases e : ds[j]? with
    | none =>
      have : vs[j]? = none := by
        have := List.getElem?_eq_none_iff.mp e
        exact List.getElem?_eq_none (by rw [h.length]; exact this)
      rw [this]; exact .non
    | some d =>
      obtain ⟨v, v1, v2⟩ := h.get e
      rw [v1]; exact v2
structure KCal (S : Bs) (x : Str) (n k : Nat) (ks : List Str) (pm : List Nat) (f : Mir) : Prop where
  ex : ∃ (fa : Addr) (fd : FuncData) (ps : List Str), FnOk S.P S.w S.K S.mg S.base (L2.CX S.P S.w) k fa fd ps (spOf S n f) ∧ S.mg x = some (.ref fa) ∧ PySem.W.keepIn S.K (.ref fa) = true ∧
    ∀ (s : Shared) (ws : List Value), ws.length = ks.length → BindsTo s fd ⟨[], ks.zip ws⟩ (ps.zip (pm.map fun j => ws.getD j .none))
theorem kcal_mk {S : Bs} {x : Str} {n k : Nat} {ks : List Str} {pm : List Nat} {f : Mir} {st : Stmt} {qual : Str} (ps : List Str) (hF : ∃ fa fd, Fun S.K x qual st fa fd ∧ S.mg x = some (.ref fa))
    (hp : ∀ (fa : Addr) (fd : FuncData), Fun S.K x qual st fa fd → S.mg x = some (.ref fa) → FnOk S.P S.w S.K S.mg S.base (L2.CX S.P S.w) k fa fd ps (spOf S n f))
    (h : ∀ (kV doc pm' : Value) (an : Option Addr) (cdv ct : Value) (ws : List Value), ws.length = ks.length → bindArgs (PySem.W.fnOf x qual (defArgs st) (defBody st) (defScope st) .none kV doc pm' an cdv ct) ⟨[], ks.zip ws⟩ = pure (ps.zip (pm.map fun j => ws.getD j .none))) : KCal S x n k ks pm f := by
  obtain ⟨fa, fd, Fu, mgx⟩ := hF
  have G := hp fa fd Fu mgx
  have kp := Fu.kp
  obtain ⟨oc, od, kV, doc, pm', an, cdv, ct, osl, rfl, lk, hcd⟩ := Fu.ex
  exact ⟨fa, _, ps, G, mgx, kp, fun s ws hl => .of_eq (h kV doc pm' an cdv ct ws hl)⟩
theorem Vals.perm {zs : List V} {ws : List Value} (h : Vals zs ws) : ∀ pm : List Nat, Vals (pm.map fun j => zs.getD j .non) (pm.map fun j => ws.getD j .none)
  | [] => .nil
  | j :: pm => by
    refine .cons ?_ (Vals.perm h pm)
    show RelV (zs.getD j .non) (ws.getD j .none)
    rw [List.getD_eq_getElem?_getD, List.getD_eq_getElem?_getD]
    cases e : zs[j]? with
    | none =>
      have : ws[j]? = none := by
        have := List.getElem?_eq_none_iff.mp e
        exact List.getElem?_eq_none (by rw [← h.length]; exact this)
      rw [this]
      rfl
    | some d =>
      obtain ⟨v, v1, v2⟩ := h.get e
      rw [v1]; exact v2
def tCallKS (sp : Sp) (nk : Nat) (pm : List Nat) (E : L2.St → XK) (tk : TA) : TE := fun σ H Q => tk σ H fun zs H1 => zs.length = nk ∧ sp (pm.map fun j => zs.getD j .non) H1 Q (E σ)
theorem pe_callKS {X : Cx} {k : Nat} {f : Addr} {fd : FuncData} {ps ks : List Str} {sp : Sp} {E : L2.St → XK} {kws : List Keyword} {tk : TA} {pm : List Nat} (Fn : FnOk X.prog X.w X.K X.mg X.base (L2.CX X.prog X.w) k f fd ps sp) (hr : Room k X.A) (hg : Gl X x) (hm : X.mg x = some (.ref f)) (hk : PySem.W.keepIn X.K (.ref f) = true) (hb : ∀ (s : Shared) (ws : List Value), ws.length = ks.length → BindsTo s fd ⟨[], ks.zip ws⟩ (ps.zip (pm.map fun j => ws.getD j .none))) (hx : ∀ σ, PassesAt (L2.CX X.prog X.w) X σ (E σ))
    (hkw : PK X kws tk) (hall : (backToKw pos (keywordEach kws X.env)).all (·.1.isSome) = true) (hks : (backToKw pos (keywordEach kws X.env)).filterMap (·.1) = ks) (hdb : (x == ("__debug__" : Str)) = false) (hpl : ((backTo pos (starEach [] X.env)).any (·.1) || (backToKw pos (keywordEach kws X.env)).any (·.1.isNone)) = false) :
    PE X (.Call (.Name x p) [] kws pos) (tCallKS sp ks.length pm E tk) := by
  refine ⟨fun pins s σ H Q I h => ?_⟩
  refine wpAny_Call_Name_kw (ld_glob I hg hm ?_ hdb)
  refine PySem.W.callWith_KW0 (h₀ := X.base) I.ok.mod.kin hk hall (thn (hkw.run pos pins s σ H _ I h) fun ws s2 ⟨zs, H2, I2, rz, hz, q2⟩ => ⟨I2.kIn, ?_⟩) hpl
  rw [hks]
  refine wpAny_call (codeAny_mono (Fn.run X.A X.stack s2 H2 ⟨[], ks.zip ws⟩ (pm.map fun j => ws.getD j .none) (pm.map fun j => zs.getD j .non) Q (E σ) hr I2.env0 (hb s2 ws (rz.length.symm.trans hz)) (Vals.perm rz pm) q2) fun r s' hq => ?_)
  cases r with
  | error e => exact hx σ pins H2 s2 e s' I2 hq
  | ok fl =>
    cases fl with
    | ret u => exact I2.after hq
    | next => exact False.elim hq
    | brk => exact False.elim hq
    | cont => exact False.elim hq
structure SKw (F : Fam) (kws : List Keyword) (m : Mi (List D)) : Prop where
  ex : ∃ tk, (∀ X, F.C X → PK X kws tk) ∧ TAD F tk m
theorem sk_nil : SKw F [] (mPure []) := ⟨_, fun _ _ => pk_nil, fun fr w σ H z fp Q R q => q w H fp R (World.le_refl w) [] .nil⟩
theorem sk_cons {nm : Option Str} {kpos : Pos} {kws : List Keyword} {ms : Mi (List D)} (h : SE F e m) (k : SKw F kws ms) : SKw F (⟨nm, e, kpos⟩ :: kws) (mCons m ms) := by
  obtain ⟨t, h1, h2⟩ := h.ex
  obtain ⟨u, k1, k2⟩ := k.ex
  refine ⟨_, fun X hX => pk_cons (h1 X hX) (k1 X hX), fun fr w σ H z fp Q R q => ?_⟩
  refine h2 fr w σ H z fp _ R (q.cut.imp fun d w1 H1 z1 fp1 R1 l1 k v r => ?_)
  refine k2 fr w1 σ H1 z1 fp1 _ R1 (k.2.2.cut.imp fun ds w2 H2 z2 fp2 R2 l2 k vs rs => ?_)
  exact k.2.2 w2 H2 fp2 R2 (World.le_refl w2) _ (.cons (r.mono l2) rs)
def mCallK (n nk : Nat) (pm : List Nat) (f : Mir) (ms : Mi (List D)) : Mi D := mBind ms fun ds => if ds.length = nk then mCall n f (mPure (mPerm pm ds)) else mNo
theorem se_callK {kws : List Keyword} {ms : Mi (List D)} {n k nk : Nat} {ks : List Str} {pm : List Nat} {f : Mir} (G : KCal F.bs x n k ks pm f) (ha : SKw F kws ms) (hk : k ≤ F.lvl) (hn : pm.length = n := by rfl) (hnk : ks.length = nk := by rfl) (hc : F.cal = true := by rfl) (hg : F.sc.names.lookup x = some .globalImplicit := by rfl) (hdb : (x == ("__debug__" : Str)) = false := by decide)
    (hall : ∀ env, (backToKw pos (keywordEach kws env)).all (·.1.isSome) = true := by intro _; rfl) (hks : ∀ env, (backToKw pos (keywordEach kws env)).filterMap (·.1) = ks := by intro _; rfl) (hpl : ∀ env, ((backTo pos (starEach [] env)).any (·.1) || (backToKw pos (keywordEach kws env)).any (·.1.isNone)) = false := by intro _; rfl) :
    SE F (.Call (.Name x p) [] kws pos) (mCallK n nk pm f ms) := by
  subst hnk
  obtain ⟨fa, fd, ps, G1, G2, G3, G4⟩ := G.ex
  obtain ⟨ta, a1, a2⟩ := ha.ex
  refine ⟨tCallKS (spOf F.bs n f) ks.length pm (WE F.W) ta, fun X hX => ?_, fun fr w σ H z fp Q R q => ?_⟩
  · obtain ⟨e1, e2, e3, e4, e5, e6, e7, e8⟩ := F.eqs X hX
    have G1 : FnOk X.prog X.w X.K X.mg X.base (L2.CX X.prog X.w) k fa fd ps (spOf F.bs n f) := by rw [e1, e2, e3, e4, e5]; exact G1
    exact pe_callKS G1 ((F.room X hX hc).mono hk) (by show X.env.scope.names.lookup x = _; rw [e7]; exact hg) (by rw [e4]; exact G2) (by rw [e3]; exact G3) G4 (passAt (F.tk X hX hc)) (a1 X hX) (hall X.env) (hks X.env) hdb (hpl X.env)
  · refine a2 fr w σ H z fp _ R ?_
    unfold mCallK at q
    refine q.cut.imp fun ds w1 H1 z1 fp1 R1 l1 k vs rs => ?_
    have k := k.2.2
    by_cases hl : ds.length = ks.length
    · rw [if_pos hl] at k
      refine ⟨by rw [rs.length]; exact hl, by rw [List.length_map]; exact hn, w1, mPerm pm ds, z1.s, R1.ent, rs.perm pm, ?_⟩
      have hl2 : (mPerm pm ds).length = n := by unfold mPerm; rw [List.length_map]; exact hn
      have k : Ens F fr w1 σ (if (mPerm pm ds).length = n then (match f (mPerm pm ds) z1.s with
        | .ok d s => M.R.ok d ⟨z1.e, s⟩
        | .ex c s => .ex c ⟨z1.e, s⟩
        | .no => .no) else .no) _ := k
      rw [if_pos hl2] at k
      cases e1 : f (mPerm pm ds) z1.s with
      | ok d s' =>
        rw [e1] at k
        exact fun v w' H' R' rv => k w' H' fp1 (R1.called R') R'.ge v rv
      | ex c s' =>
        rw [e1] at k
        exact fun w' H' R' => k w' H' fp1 (R1.called R') R'.ge
      | no => rw [e1] at k; exact k.elim
    · rw [if_neg hl] at k; exact k.elim
end
end M
namespace M
open PySem L2
open PyProof.Rows (envOfC)

/-! ## dict comprehensions -/
abbrev keysOf (kvs : List (Key × V)) : List Key := kvs.map fun kv => kv.1
def mDcGo (vs : List Nat) (t : D → Z → Option Z) (c : Mi Bool) (mk m : Mi D) : List D → List Key → List D → Mi (List Key × List D)
  | [], ks, acc => mPure (ks, acc)
  | d :: ds, ks, acc => fun z => match t d (z.wipe vs) with
    | none => .no
    | some z1 => match c z1 with
      | .ok false z2 => mDcGo vs t c mk m ds ks acc z2
      | .ok true z2 => (match mk z2 with
        | .ok a z3 => (match m z3, toKey a with
          | .ok y z4, some q => if ks.length < sizeLine then mDcGo vs t c mk m ds (putKs ks q) (putDs ks acc q y) z4 else .no
          | _, _ => .no)
        | _ => .no)
      | _ => .no
def mDc (vs : List Nat) (mi : Mi (List D)) (t : D → Z → Option Z) (c : Mi Bool) (mk m : Mi D) : Mi B := mBind mi fun ds z => match mDcGo vs t c mk m ds [] [] z with
  | .ok (ks, acc) z' => .ok (.md ks acc) ⟨backE z.e z'.e vs, z'.s⟩
  | _ => .no
section
variable {F Fb : Fam} {vs : List Nat}
theorem tbd_dc {wi : TI} {g : TG} {tt : TT} {tk te : TE} {mi : Mi (List D)} {t : D → Z → Option Z} {c : Mi Bool} {mk m : Mi D} (hK : Fb.K = F.K) (hi : TID F wi mi) (hg : TGD Fb g t) (hw : Wp vs g) (ht : TTD Fb tt c) (hk : TED Fb tk mk) (he : TED Fb te m) : TBD F (tDc wi g tt tk te vs) (mDc vs mi t c mk m) := by
  intro fr w σ H z fp Q R q
  refine hi fr w σ H z fp _ R ((tbd_of q).imp fun ds w1 H1 z1 fp1 R1 l1 k J ok Dd hD => ?_)
  have k := k.2.2
  cases eF : mDcGo vs t c mk m ds [] [] z1 with
  | ex _ _ => simp only [eF] at k; exact k.elim
  | no => simp only [eF] at k; exact k.elim
  | ok kdF zF =>
    obtain ⟨ksF, dsF⟩ := kdF
    simp only [eF] at k
    have hI1 : fr.Hin Dd = none := R1.newIn hD
    have h01 : w1.H0 Dd = none := R1.new0 hD
    have hf1 : ∀ j, Dd ∉ fp1 j := fun j m => by
      obtain ⟨u, e⟩ := R1.slot_there m
      rw [hD] at e; cases e
    have hm1 : Dd ∉ w1.mu.flatten := fun m => by
      obtain ⟨u, e⟩ := R1.sh_there m
      rw [hD] at e; cases e
    -- the block's own stretch
    have RB : Rel F.K ⟨H1, w1, pfAt w1 fp1 (fun j => j ∉ vs)⟩ w1 (wipe σ vs) H1 (z1.wipe vs) (fun j => if j ∈ vs then [] else fp1 j) := by
      refine R1.anew (by rw [wipe_length]; show _ = (wipeE z1.e vs).length; rw [wipeE_length]; exact R1.len) (fun i hi => ⟨?_, wipe_slot hi, by rw [if_neg hi]⟩) fun i hi => ⟨fun b e => ?_, ?_⟩
      · show (wipeE z1.e vs)[i]? = _
        rw [wipeE_get, if_neg fun h => hi h.1]
      · have hi : i ∈ vs := Classical.not_not.mp hi
        have e : (wipeE z1.e vs)[i]? = some b := e
        rw [wipeE_get] at e
        by_cases hl : i < z1.e.length
        · rw [if_pos ⟨hi, hl⟩] at e; cases e; rfl
        · rw [if_neg fun h => hl h.2, List.getElem?_eq_none (by omega)] at e; cases e
      · rw [if_pos (Classical.not_not.mp hi)]
    let P : Nat → Hp → Prop := fun i H => ∃ w2 zu fp2 acc, ∃ kvs : List (Key × V), Rel F.K ⟨H1, w1, pfAt w1 fp1 (fun j => j ∉ vs)⟩ w2 (wipe σ vs) H (zu.wipe vs) fp2 ∧ H Dd = some (.dK kvs) ∧ RepL F.K w2 (kvs.map (·.2)) acc ∧ w2.H0 Dd = none ∧ Dd ∉ w2.mu.flatten ∧ (∀ j, Dd ∉ fp2 j) ∧ w1.le w2 ∧ mDcGo vs t c mk m (ds.drop i) (keysOf kvs) acc zu = .ok (ksF, dsF) zF
    refine ⟨fun i n H => n = ds.length - i ∧ i ≤ ds.length ∧ P i H, ⟨ds.length, by simp, Nat.zero_le _, w1, z1, fun j => if j ∈ vs then [] else fp1 j, [], [], ?_, upd_same, .nil, h01, hm1, fun j h => ?_, World.le_refl w1, by rw [List.drop_zero]; exact eF⟩, ?_⟩
    · exact RB.poke h01 hm1 hD fun j h => by
        by_cases hj : j ∈ vs
        · rw [if_pos hj] at h; cases h
        · rw [if_neg hj] at h; exact hf1 j h
    · have h : Dd ∈ (if j ∈ vs then [] else fp1 j) := h
      by_cases hj : j ∈ vs
      · rw [if_pos hj] at h; cases h
      · rw [if_neg hj] at h; exact hf1 j h
    rintro i n H2 ⟨rfl, hil, w2, zu, fp2, acc, kvs, R2, hU, rU, a0, am, af, l2, eq⟩
    by_cases hlt : i < ds.length
    · -- a turn, in a stretch of its own
      have RT : Rel F.K ⟨H2, w2, pfAt w2 fp2 (fun _ => True)⟩ w2 (wipe σ vs) H2 (zu.wipe vs) fp2 := R2.anew R2.len (fun i _ => ⟨rfl, rfl, rfl⟩) fun i h => absurd True.intro h
      have npf : ¬ pfAt w2 fp2 (fun _ => True) Dd := fun h => by
        rcases h with h | ⟨j, _, h⟩
        · exact am h
        · exact af j h
      -- what a turn leaves as it was
      have keep : ∀ {w' : World} {σ' : St} {H' : Hp} {z' : Z} {fp' : Nat → List Addr}, Rel F.K ⟨H2, w2, pfAt w2 fp2 (fun _ => True)⟩ w' σ' H' z' fp' → H' Dd = some (.dK kvs) ∧ w'.H0 Dd = none ∧ Dd ∉ w'.mu.flatten ∧ (∀ j, Dd ∉ fp' j) := fun {w' σ' H' z' fp'} R' => by
        refine ⟨R'.frame _ _ hU npf, ?_, fun h => ?_, fun j h => ?_⟩
        · cases e : w'.H0 Dd with
          | none => rfl
          | some o =>
            rcases R'.fresh _ _ e with h | h | h
            · rw [show (⟨H2, w2, pfAt w2 fp2 (fun _ => True)⟩ : Fr).win.H0 Dd = none from a0] at h; cases h
            · rw [show (⟨H2, w2, pfAt w2 fp2 (fun _ => True)⟩ : Fr).Hin Dd = some (.dK kvs) from hU] at h; cases h
            · exact absurd h npf
        · rcases (R'.sh0 _ h).2 with h | h
          · rw [show (⟨H2, w2, pfAt w2 fp2 (fun _ => True)⟩ : Fr).Hin Dd = some (.dK kvs) from hU] at h; cases h
          · exact npf h
        · rcases (R'.own j _ h).2.2 with h | h
          · rw [show (⟨H2, w2, pfAt w2 fp2 (fun _ => True)⟩ : Fr).Hin Dd = some (.dK kvs) from hU] at h; cases h
          · exact npf h
      -- back to the block's stretch
      have back : ∀ {w' : World} {σ' : St} {H' : Hp} {z' : Z} {fp' : Nat → List Addr}, wipe σ' vs = wipe σ vs → Rel F.K ⟨H2, w2, pfAt w2 fp2 (fun _ => True)⟩ w' σ' H' z' fp' → ∃ fp'', Rel F.K ⟨H1, w1, pfAt w1 fp1 (fun j => j ∉ vs)⟩ w' (wipe σ vs) H' (z'.wipe vs) fp'' ∧ ∀ j, Dd ∉ fp'' j := fun {w' σ' H' z' fp'} ew R' => by
        have R3 := R2.back R' (e := z'.e) (σ2 := σ') (fp2 := fp') R'.len (fun i _ => ⟨rfl, rfl, rfl⟩) fun i h => absurd True.intro h
        refine ⟨fun j => if j ∈ vs then [] else fp' j, ?_, fun j h => ?_⟩
        · rw [← ew]
          refine R3.reslot (by rw [wipe_length]; show _ = (wipeE z'.e vs).length; rw [wipeE_length]; exact R'.len) fun i => ?_
          by_cases hi : i ∈ vs
          · refine .inr ⟨fun b e => ?_, by rw [if_pos hi]⟩
            have e : (wipeE z'.e vs)[i]? = some b := e
            rw [wipeE_get] at e
            by_cases hl : i < z'.e.length
            · rw [if_pos ⟨hi, hl⟩] at e; cases e; rfl
            · rw [if_neg fun h => hl h.2, List.getElem?_eq_none (by omega)] at e; cases e
          · refine .inl ⟨?_, wipe_slot hi, by rw [if_neg hi]⟩
            show (wipeE z'.e vs)[i]? = _
            rw [wipeE_get, if_neg fun h => hi h.1]
        · have h : Dd ∈ (if j ∈ vs then [] else fp' j) := h
          by_cases hj : j ∈ vs
          · rw [if_pos hj] at h; cases h
          · rw [if_neg hj] at h; exact (keep R').2.2.2 j h
      obtain ⟨g1, g2⟩ := (ok _ w2 (wipe σ vs) H2 (zu.wipe vs) fp2 RT l2 i).1 ds[i] (List.getElem?_eq_getElem hlt)
      refine .inr ⟨g1, P (i + 1), fun H' h => ⟨ds.length - (i + 1), by omega, rfl, hlt, h⟩, fun x H3 y => ?_⟩
      obtain ⟨w3, R3, l3, r3, _⟩ := g2 x H3 y
      rw [List.drop_eq_getElem_cons hlt] at eq
      have eq : (match t ds[i] (zu.wipe vs) with
        | none => M.R.no
        | some z1 => match c z1 with
          | .ok false z2 => mDcGo vs t c mk m (ds.drop (i + 1)) (keysOf kvs) acc z2
          | .ok true z2 => (match mk z2 with
            | .ok a z3 => (match m z3, toKey a with
              | .ok y z4, some q => if (keysOf kvs).length < sizeLine then mDcGo vs t c mk m (ds.drop (i + 1)) (putKs (keysOf kvs) q) (putDs (keysOf kvs) acc q y) z4 else .no
              | _, _ => .no)
            | _ => .no)
          | _ => .no) = .ok (ksF, dsF) zF := eq
      cases e1 : t ds[i] (zu.wipe vs) with
      | none => simp only [e1] at eq; cases eq
      | some z3 =>
        simp only [e1] at eq
        refine hw x (wipe σ vs) H3 _ _ (hg _ w3 (wipe σ vs) H3 (zu.wipe vs) z3 fp2 x ds[i] (fun σ' H' => H' = H3 ∧ ∃ fp4, Rel F.K ⟨H2, w2, pfAt w2 fp2 (fun _ => True)⟩ w3 σ' H' z3 fp4) (hK ▸ R3) (hK ▸ r3) e1 fun σ4 fp4 R4 => ⟨rfl, fp4, hK ▸ R4⟩) fun σ4 H' ew ⟨eH, fp4, R4⟩ => ?_
        have ew : wipe σ4 vs = wipe σ vs := by rw [ew]; exact wipe_wipe
        subst eH
        refine ⟨ew, ?_⟩
        refine ht _ w3 σ4 H' z3 fp4 _ (hK.symm ▸ R4) ?_
        cases e2 : c z3 with
        | ex _ _ => simp only [e2] at eq; cases eq
        | no => simp only [e2] at eq; cases eq
        | ok b z5 =>
          simp only [e2] at eq
          intro w5 H5 fp5 R5 l5
          have R5 : Rel F.K ⟨H2, w2, pfAt w2 fp2 (fun _ => True)⟩ w5 σ4 H5 z5 fp5 := hK ▸ R5
          have hw5 : w2.le w5 := World.le_trans l3 l5
          cases b with
          | false =>
            rw [if_neg Bool.false_ne_true]
            obtain ⟨fp6, R6, f6⟩ := back ew R5
            obtain ⟨k1, k2, k3, _⟩ := keep R5
            exact ⟨w5, z5, fp6, acc, kvs, R6, k1, rU.mono hw5, k2, k3, f6, World.le_trans l2 hw5, eq⟩
          | true =>
            rw [if_pos rfl]
            refine hk _ w5 σ4 H5 z5 fp5 _ (hK.symm ▸ R5) ?_
            cases e3 : mk z5 with
            | ex _ _ => simp only [e3] at eq; cases eq
            | no => simp only [e3] at eq; cases eq
            | ok a z6 =>
              simp only [e3] at eq
              intro w6 H6 fp6 R6 l6 va ra
              have R6 : Rel F.K ⟨H2, w2, pfAt w2 fp2 (fun _ => True)⟩ w6 σ4 H6 z6 fp6 := hK ▸ R6
              have hw6 : w2.le w6 := World.le_trans hw5 l6
              refine he _ w6 σ4 H6 z6 fp6 _ (hK.symm ▸ R6) ?_
              cases e4 : m z6 with
              | ex _ _ => simp only [e4] at eq; cases eq
              | no => simp only [e4] at eq; cases eq
              | ok y z7 =>
                cases e5 : toKey a with
                | none => simp only [e4, e5] at eq; cases eq
                | some q =>
                  simp only [e4, e5] at eq
                  by_cases hsz : (keysOf kvs).length < sizeLine
                  · rw [if_pos hsz] at eq
                    intro w7 H7 fp7 R7 l7 v rv
                    have R7 : Rel F.K ⟨H2, w2, pfAt w2 fp2 (fun _ => True)⟩ w7 σ4 H7 z7 fp7 := hK ▸ R7
                    have rv : Rep F.K w7 v y := hK ▸ rv
                    have hw7 : w2.le w7 := World.le_trans hw6 l7
                    obtain ⟨k1, k2, k3, _⟩ := keep R7
                    refine ⟨kvs, q, toKey_kV (H := H7) (.of ra) e5, k1, by rw [List.length_map] at hsz; exact hsz, ?_⟩
                    obtain ⟨fp8, R8, f8⟩ := back ew R7
                    exact ⟨w7, z7, fp8, putDs (keysOf kvs) acc q y, putK kvs q v, R8.poke k2 k3 hD f8, upd_same, put_rep (rU.mono hw7) rv, k2, k3, f8, World.le_trans l2 hw7, by rw [show keysOf (putK kvs q v) = putKs (keysOf kvs) q from put_keys kvs]; exact eq⟩
                  · rw [if_neg hsz] at eq; cases eq
    · have e : i = ds.length := by omega
      subst e
      rw [List.drop_length] at eq
      cases eq
      refine .inl ⟨(ok _ w2 (wipe σ vs) H2 (zF.wipe vs) fp2 R2 l2 _).2 (by simp) rfl, ?_⟩
      have hlen : zF.e.length = z1.e.length := by
        have h1 := R2.len
        rw [wipe_length, R1.len] at h1
        have h2 : (zF.wipe vs).e.length = zF.e.length := wipeE_length zF.e vs
        omega
      have R9 := R1.back R2 (e := backE z1.e zF.e vs) (σ2 := σ) (fp2 := fun j => if j ∈ vs then fp1 j else fp2 j) (by rw [backE_length, R1.len, hlen]) (fun j hj => ⟨?_, (wipe_slot hj).symm, by rw [if_neg hj]⟩) fun j hj => ⟨?_, rfl, by rw [if_pos (Classical.not_not.mp hj)]⟩
      · refine k (.ref Dd) w2 H2 _ (R9.addBlob a0 am hI1 (fun j h => ?_) ⟨Dd, kvs, rfl, rfl, hU, rfl, rU⟩) l2
        have h : Dd ∈ (if j ∈ vs then fp1 j else fp2 j) := h
        by_cases hj : j ∈ vs
        · rw [if_pos hj] at h; exact hf1 j h
        · rw [if_neg hj] at h; exact af j h
      · rw [backE_get hlen.symm, if_neg hj]
        show _ = (wipeE zF.e vs)[j]?
        rw [wipeE_get, if_neg fun h => hj h.1]
      · rw [backE_get hlen.symm, if_pos (Classical.not_not.mp hj)]
end
section
variable {F : Fam} {e e' : Expr} {pos : Pos} {m m' : Mi D} {x : Str} {p : Pos}
theorem sb_dc {kx elt tg iter : Expr} {ifs : List Expr} {scope : Scope} {own : List (Str × Nat)} {mi : Mi (List D)} {t : D → Z → Option Z} {c : Mi Bool} {mk : Mi D} (hi : SI F tg iter mi) (ok : BlkOk F.N F.sc scope own) (hg : SGW (F.blk scope) (own.map (·.2)) tg t) (ht : STs (F.blk scope) ifs c) (hk : SE (F.blk scope) kx mk) (he : SE (F.blk scope) elt m) (hc : F.cal = true := by rfl)
    (hs : ∀ env x, foldedSetIterable iter env x = pure x := by intro _ _; rfl) : SB F (.DictComp kx elt [⟨tg, iter, ifs, 0⟩] scope pos) (mDc (own.map (·.2)) mi t c mk m) := by
  obtain ⟨wi, i1, i2⟩ := hi.ex
  obtain ⟨g, g1, g2, g3⟩ := hg.ex
  obtain ⟨tt, t1, t2⟩ := ht.ex
  obtain ⟨tk, k1, k2⟩ := hk.ex
  obtain ⟨te, e1, e2⟩ := he.ex
  exact ⟨_, fun X hX => pe_dc (F.calm X hX hc) (F_nd hX) (i1 X hX) (blk_ok hX ok) (fun s H C cl fp => g1 _ ⟨X, hX, s, H, C, cl, fp, rfl⟩) (fun s H C cl fp => t1 _ ⟨X, hX, s, H, C, cl, fp, rfl⟩) (fun s H C cl fp => k1 _ ⟨X, hX, s, H, C, cl, fp, rfl⟩) (fun s H C cl fp => e1 _ ⟨X, hX, s, H, C, cl, fp, rfl⟩) (hs X.env),
    tbd_dc (Fb := F.blk scope) rfl i2 g2 g3 t2 k2 e2⟩
theorem ps_setDc {X : Cx} {i : Nat} {y : Str} {py : Pos} {kx vx tg iter : Expr} {ifs : List Expr} {scope : Scope} {own : List (Str × Nat)} {pos spos : Pos} {wi : TI} {g : TG} {tt : TT} {tk tv : TE} (hc : X.calm = true) (hN : X.N.Nodup) (hy : X.N[i]? = some y) (hyl : X.env.scope.names.lookup y = some .local)
    (hsw : swapsWith (.DictComp kx vx [⟨tg, iter, ifs, 0⟩] scope pos) (some (.Name y py)) spos.line X.env = pure true) (hi : PI X tg iter wi) (ok : BlkOk X.N X.env.scope scope own)
    (hg : ∀ (s : Shared) (H : Hp) (C : Addr) (cl : List (Str × Addr)) (fp : List Addr), PG (X.blk s H scope (compEnvC scope cl C X.env) fp) tg g) (ht : ∀ (s : Shared) (H : Hp) (C : Addr) (cl : List (Str × Addr)) (fp : List Addr), PTs (X.blk s H scope (compEnvC scope cl C X.env) fp) ifs tt)
    (hk : ∀ (s : Shared) (H : Hp) (C : Addr) (cl : List (Str × Addr)) (fp : List Addr), PE (X.blk s H scope (compEnvC scope cl C X.env) fp) kx tk)
    (he : ∀ (s : Shared) (H : Hp) (C : Addr) (cl : List (Str × Addr)) (fp : List Addr), PE (X.blk s H scope (compEnvC scope cl C X.env) fp) vx tv) (hs : ∀ x, foldedSetIterable iter X.env x = pure x := by intro _; rfl) :
    PS X (.Assign [.Name y py] (.DictComp kx vx [⟨tg, iter, ifs, 0⟩] scope pos) spos) (tAsg (tDc wi g tt tk tv (own.map (·.2))) (gName i)) := by
  refine ⟨fun pins s σ H D I h => ?_⟩
  rw [exec_Assign_Name_used _ _ _ _ hsw]
  refine wpAny_bind (wpAny_standAt (wpAny_bind ?_))
  show wpAny _ X.A (do let _ ← comprehension (.DictComp kx vx [⟨tg, iter, ifs, 0⟩] scope pos) scope X.env (firstIterPos [⟨tg, iter, ifs, 0⟩] pos) newDict false (eval iter X.env) (some (assign (.Name y py) X.env))) _ _ s
  have h : tDc wi g tt tk tv (own.map (·.2)) σ H (fun x H1 => gName i x σ H1 D.nx) := h
  refine wpAny_bind (thn (dc_core (Qf := fun _ s' => SP X pins D .next s') hc hN I hi ok hg ht hk he hs h fun L C s' m H' I' q hn f => ?_) fun _ s' hq => wpAny_pure (wpAny_pure hq))
  show wpAny _ _ (assign (.Name y py) X.env (.ref L)) _ _ _
  refine wpAny_assign_Name (store_ok2 (v := V.ref L) I' hN hy (.inl hyl) rfl (fun s2 I2 ⟨a, sb, ha⟩ => ?_) (.inr hyl))
  obtain ⟨f0, f1, f2, f3, f4, f5⟩ := f
  have haC : C ≠ a := by
    rcases ha with z | z
    · rw [z]; exact f1
    · exact fun e => f4 y a z e.symm
  refine ⟨m, hn.sameBut sb haC, fun h3 sb3 => ?_⟩
  exact ⟨_, H', I2.turned (t' := s2.toks) (fun b o hb e => (sb3.2 b hb).trans e) f0 f1 f3 f4 f5, q⟩
theorem ss_ownDc (i : Nat) {kx elt tg iter : Expr} {ifs : List Expr} {scope : Scope} {own : List (Str × Nat)} {mi : Mi (List D)} {t : D → Z → Option Z} {c : Mi Bool} {mk : Mi D} {spos : Pos} (hi : SI F tg iter mi) (ok : BlkOk F.N F.sc scope own) (hg : SGW (F.blk scope) (own.map (·.2)) tg t) (ht : STs (F.blk scope) ifs c) (hk : SE (F.blk scope) kx mk) (he : SE (F.blk scope) elt m)
    (hsw : ∀ env : Env, env.scope = F.sc → swapsWith (.DictComp kx elt [⟨tg, iter, ifs, 0⟩] scope pos) (some (.Name x p)) spos.line env = pure true) (hc : F.cal = true := by rfl) (hN : F.N[i]? = some x := by rfl) (hl : F.sc.names.lookup x = some .local := by rfl) (hs : ∀ env x, foldedSetIterable iter env x = pure x := by intro _ _; rfl) :
    SS F (.Assign [.Name x p] (.DictComp kx elt [⟨tg, iter, ifs, 0⟩] scope pos) spos) (mOwn i (mDc (own.map (·.2)) mi t c mk m)) := by
  obtain ⟨wi, i1, i2⟩ := hi.ex
  obtain ⟨g, g1, g2, g3⟩ := hg.ex
  obtain ⟨tt, t1, t2⟩ := ht.ex
  obtain ⟨tk, k1, k2⟩ := hk.ex
  obtain ⟨te, e1, e2⟩ := he.ex
  refine ⟨_, fun X hX => ?_, tsd_own i (tbd_dc (Fb := F.blk scope) rfl i2 g2 g3 t2 k2 e2)⟩
  obtain ⟨q1, q2, q3, q4, q5, q6, q7, q8⟩ := F.eqs X hX
  exact ps_setDc (F.calm X hX hc) (F_nd hX) (by rw [q6]; exact hN) (by rw [q7]; exact hl) (hsw X.env q7) (i1 X hX) (blk_ok hX ok) (fun s H C cl fp => g1 _ ⟨X, hX, s, H, C, cl, fp, rfl⟩) (fun s H C cl fp => t1 _ ⟨X, hX, s, H, C, cl, fp, rfl⟩) (fun s H C cl fp => k1 _ ⟨X, hX, s, H, C, cl, fp, rfl⟩) (fun s H C cl fp => e1 _ ⟨X, hX, s, H, C, cl, fp, rfl⟩) (hs X.env)
theorem swap_ofD {kx elt tg iter : Expr} {ifs : List Expr} {scope sc : Scope} {t : Str} {p spos : Pos} {b : Bool} (hk : sc.kind = .function)
    (h : (sc.names.lookup t == some NameKind.local && p.line == pos.line && !(scope.names.any fun (n, k) => n == t && (k == .local || k == .cell))) = b) :
    ∀ env : Env, env.scope = sc → swapsWith (.DictComp kx elt [⟨tg, iter, ifs, 0⟩] scope pos) (some (.Name t p)) spos.line env = pure b := by
  intro env he
  have e1 : (env.blockKind == ScopeKind.function) = true := by
    unfold Env.blockKind
    rw [he, hk]
    rfl
  show pure (env.blockKind == ScopeKind.function && env.kindOf t == some NameKind.local && p.line == pos.line && !(scope.names.any fun (n, k) => n == t && (k == .local || k == .cell))) = pure b
  unfold Env.kindOf
  rw [e1, he, Bool.true_and, h]
/-! ## x * n -/
def mRep (m : Mi B) (m' : Mi D) : Mi B := mBind m fun b => mBind m' fun d => match b, d with
  | .ml xs, .int k => if (-(2 ^ 63 : Int) ≤ k ∧ k < (2 ^ 63 : Int)) ∧ xs.length * k.toNat ≤ sizeLine then mPure (.ml (List.replicate k.toNat xs).flatten) else mNo
  | _, _ => mNo
theorem sb_rep {mb : Mi B} (h : SB F e mb) (h' : SE F e' m') : SB F (.BinOp e .Mult e' pos) (mRep mb m') := by
  obtain ⟨ta, a1, a2⟩ := h.ex
  obtain ⟨tb, b1, b2⟩ := h'.ex
  refine ⟨_, fun X hX => pe_op op_rep (a1 X hX) (b1 X hX), fun fr w σ H z fp Q R q => ?_⟩
  refine a2 fr w σ H z fp _ R ?_
  unfold mRep mBind at q
  cases q1 : mb z with
  | ex c z1 => simp only [q1] at q; exact fun w' H' fp' R' l' => q w' H' fp' R' l'
  | no => simp only [q1] at q; exact q
  | ok bl1 z1 =>
    simp only [q1] at q
    intro v1 w1 H1 fp1 R1 l1
    have hl1 : σ.length = z1.e.length := by have := R1.len; simpa using this
    refine b2 _ w1 σ H1 z1 _ _ (R1.front hl1) ?_
    cases q2 : m' z1 with
    | ex c z2 =>
      simp only [q2] at q
      intro w' H' fp' R' l'
      have R3 := R1.pop
      rw [pf_front R1] at R'
      exact q w' H' _ (R3.back R' R'.len (fun _ _ => ⟨rfl, rfl, rfl⟩) fun _ h => absurd trivial h) (World.le_trans l1 l')
    | no => simp only [q2] at q; exact q
    | ok d z2 =>
      simp only [q2] at q
      intro w2 H2 fp2 R2 l2 v2 r2
      cases bl1 with
      | ml xs =>
        cases d with
        | int k =>
          cases r2
          have q : EnsB F fr w σ ((if (-(2 ^ 63 : Int) ≤ k ∧ k < (2 ^ 63 : Int)) ∧ xs.length * k.toNat ≤ sizeLine then mPure (.ml (List.replicate k.toNat xs).flatten) else mNo) z2) Q := q
          by_cases hk : (-(2 ^ 63 : Int) ≤ k ∧ k < (2 ^ 63 : Int)) ∧ xs.length * k.toNat ≤ sizeLine
          · rw [if_pos hk] at q
            obtain ⟨a, vs, s0, f0, h0, r0⟩ := R1.slots z1.e.length (.ml xs) (by show (z1.e ++ [B.ml xs])[z1.e.length]? = _; rw [List.getElem?_append_right (Nat.le_refl _), Nat.sub_self]; rfl)
            rw [← hl1, slot_app_last] at s0
            cases s0
            have ha : a ∈ fp1 z1.e.length := by rw [f0]; simp
            have npf : ¬ pfAt w1 fp1 (fun j => j < z1.e.length) a := fun h => by
              rcases h with h | ⟨j, hj, h⟩
              · exact (R1.own _ a ha).2.1 h
              · have := R1.dj _ _ a ha h; omega
            have h2 : H2 a = some (.lst vs) := R2.frame a _ h0 npf
            have R3 := R1.pop
            rw [pf_front R1] at R2
            have R4 := R3.back R2 R2.len (fun _ _ => ⟨rfl, rfl, rfl⟩) fun _ h => absurd trivial h
            refine ⟨a, k, vs, rfl, rfl, h2, hk.1.1, hk.1.2, by rw [r0.length]; exact hk.2, fun p hp => ?_⟩
            exact q _ w2 _ _ (R4.newList hp ((r0.mono l2).rep k.toNat)) (World.le_trans l1 l2)
          · rw [if_neg hk] at q; exact q.elim
        | _ => exact q.elim
      | _ => exact q.elim
/-! ## x[i].append(e), x a list of new lists -/
def mAppAt (i : Nat) (mi m : Mi D) : Mi D := fun z => match z.e[i]? with
  | some (.ms _) => mBind mi (fun k z1 => match z1.e[i]?, k with
    | some (.ms bs), .int j => (match ixN bs.length j with
      | some n => (match bs[n]? with
        | some (.ml ds) => (match m ⟨z1.e.set i .un, z1.s⟩ with
          | .ok d z2 => if ds.length < sizeLine then .ok .non ⟨z2.e.set i (.ms (bs.set n (.ml (ds ++ [d])))), z2.s⟩ else .no
          | .ex c z2 => .ex c ⟨z2.e.set i (.ms bs), z2.s⟩
          | .no => .no)
        | _ => .no)
      | none => .no)
    | _, _ => .no) z
  | _ => .no
end
section
variable {K : PySem.W.Frag} {w : World} {H : Hp}
/-- one of a list of new things -/
theorem SlotsR.at : ∀ {bs : List B} {vs : List V} {fp : List Addr} {n : Nat} {ds : List D}, SlotsR K w H vs bs fp → fp.Nodup → bs[n]? = some (.ml ds) → ∃ a us, vs[n]? = some (.ref a) ∧ a ∈ fp ∧ H a = some (.lst us) ∧ RepL K w us ds ∧
    ∀ (us' : List V) (ds' : List D), RepL K w us' ds' → SlotsR K w (upd H a (.lst us')) vs (bs.set n (.ml ds')) fp
  | [], _, _, _, _, _, _, h => by cases h
  | b :: bs, _, _, 0, ds, h, hn, e => by
    obtain ⟨v, vs, f, g, rfl, rfl, s1, s2⟩ := h
    cases e
    obtain ⟨a, us, e1, e2, e3, e4⟩ := s1
    cases e1
    subst e2
    have hag : a ∉ g := fun m => by
      have := (List.nodup_append.mp hn).2.2 a (by simp) a m
      exact this rfl
    exact ⟨a, us, rfl, by simp, e3, e4, fun us' ds' r => ⟨.ref a, vs, [a], g, rfl, rfl, ⟨a, us', rfl, rfl, upd_same, r⟩, SlotsR.mono (World.le_refl w) (fun c m x k => by rw [upd_ne fun h => hag (by rw [← h]; exact m)]; exact k) s2⟩⟩
  | b :: bs, _, _, n + 1, ds, h, hn, e => by
    obtain ⟨v, vs, f, g, rfl, rfl, s1, s2⟩ := h
    obtain ⟨a, us, e1, e2, e3, e4, e5⟩ := SlotsR.at s2 (List.nodup_append.mp hn).2.1 e
    have haf : a ∉ f := fun m => (List.nodup_append.mp hn).2.2 a m a e2 rfl
    exact ⟨a, us, e1, List.mem_append_right _ e2, e3, e4, fun us' ds' r => ⟨v, vs, f, g, rfl, rfl, SlotR.mono (World.le_refl w) (fun c m x k => by rw [upd_ne fun h => haf (by rw [← h]; exact m)]; exact k) s1, e5 us' ds' r⟩⟩
end
section
variable {F : Fam} {e e' : Expr} {pos : Pos} {m m' : Mi D} {x : Str} {p : Pos}
theorem pe_methE {X : Cx} {ei : Expr} {ti te : TE} {r : V → List V → Hp → VK → Prop} {nm : Str} {mid : String} {apos cpos : Pos} (hX : F.C X) (pa : PlainAttrs "list") (slot : Slot "list" nm mid) (hty : typeOf (.builtin mid) = pure (.type "method_descriptor")) (hm : MtR X mid r) (h0 : PE X ei ti) (h1 : PE X e te)
    (hs : ∀ env, starEach [e] env = (false, eval e env) :: starEach [] env) (hb : ∀ env, attributeBase ei nm env (eval ei env) = eval ei env) (hline : (apos.endLine == cpos.line) = true) : PE X (.Call (.Attribute ei nm apos) [e] [] cpos) (tBM F.K "list" r ti (tCons te tNil)) := by
  have := pe_bm (cpos := cpos) (apos := apos) (name := nm) pa slot hty hm h0 (pa_cons h1 pa_nil (hs X.env)) (hb X.env) (by rw [hs]; rfl) hline (hs X.env) rfl
  rw [F_K hX] at this
  exact this
theorem slot_ms {K : PySem.W.Frag} {fr : Fr} {w : World} {σ : St} {H : Hp} {z : Z} {fp : Nat → List Addr} {i : Nat} {bs : List B} (R : Rel K fr w σ H z fp) (e : z.e[i]? = some (.ms bs)) : ∃ a vs f, slot σ i = some (.ref a) ∧ fp i = a :: f ∧ H a = some (.lst vs) ∧ SlotsR K w H vs bs f := R.slots i _ e
theorem se_appAt (i : Nat) {ei : Expr} {mi : Mi D} {p2 apos cpos : Pos} (hi : SE F ei mi) (h : SE F e m) (hN : F.N[i]? = some x := by rfl) (hv : Vis F.sc x := by first | exact Or.inl rfl | exact Or.inr (Or.inl rfl) | exact Or.inr (Or.inr rfl)) (hd : (x == ("__debug__" : Str)) = false := by decide) (hcd : (x == ("__classdict__" : Str)) = false := by decide)
    (hs : ∀ env, starEach [e] env = (false, eval e env) :: starEach [] env := by intro _; rfl) (hb : ∀ env, attributeBase (.Subscript (.Name x p) ei p2) ("append" : Str) env (eval (.Subscript (.Name x p) ei p2) env) = eval (.Subscript (.Name x p) ei p2) env := by intro _; rfl) (hns : PlainIx ei := by exact fun _ _ => rfl) (hline : (apos.endLine == cpos.line) = true := by rfl) :
    SE F (.Call (.Attribute (.Subscript (.Name x p) ei p2) ("append" : Str) apos) [e] [] cpos) (mAppAt i mi m) := by
  obtain ⟨ti, i1, i2⟩ := hi.ex
  obtain ⟨te, h1, h2⟩ := h.ex
  refine ⟨_, fun X hX => pe_methE hX PySem.F.plainAttrs_list PySem.F.slot_list_append PySem.F.type_list_append mt_append (pe_ix (ixr hX) (pe_name hX i hN hv hd hcd) (i1 X hX) hns) (h1 X hX) hs hb hline, fun fr w σ H z fp Q R q => ?_⟩
  unfold mAppAt at q
  cases e0 : z.e[i]? with
  | none => simp only [e0] at q; exact q.elim
  | some b0 =>
    cases b0 with
    | ms bs0 =>
      simp only [e0] at q
      obtain ⟨a, vs0, f0, s0, p0, h0, _⟩ := slot_ms R e0
      refine ⟨.ref a, slot_get s0, ?_⟩
      refine i2 fr w σ H z fp _ R ((Ens.cut q).imp fun k w1 H1 z1 fp1 R1 l1 q y ry => ?_)
      have q := q.2.2
      cases e1 : z1.e[i]? with
      | none => simp only [e1] at q; exact q.elim
      | some b1 =>
        cases b1 with
        | ms bs =>
          cases k with
          | int j =>
            simp only [e1] at q
            cases ry
            cases e2 : ixN bs.length j with
            | none => simp only [e2] at q; exact q.elim
            | some n =>
              simp only [e2] at q
              cases e3 : bs[n]? with
              | none => simp only [e3] at q; exact q.elim
              | some b3 =>
                cases b3 with
                | ml ds =>
                  simp only [e3] at q
                  obtain ⟨a', vs, f, s1, f1, q1, rv⟩ := slot_ms R1 e1
                  rw [s0] at s1
                  cases s1
                  have nd1 := R1.nd i
                  rw [f1] at nd1
                  have hlv := SlotsR.len rv
                  obtain ⟨an, us, g1, g2, g3, g4, g5⟩ := SlotsR.at rv (List.nodup_cons.mp nd1).2 e3
                  have hi : i < z1.e.length := (List.getElem?_eq_some_iff.mp e1).1
                  refine .inl ⟨a, vs, j, .ref an, rfl, rfl, .inl (.inl q1), by unfold atI; rw [hlv, e2]; exact g1, .inl ⟨rfl, us, .inl (.inl g3)⟩, ?_⟩
                  have Ra : Rel F.K ⟨H1, w1, pfAt w1 fp1 (fun j => j ≠ i)⟩ w1 σ H1 ⟨z1.e.set i .un, z1.s⟩ (fun j => if j = i then [] else fp1 j) := by
                    refine R1.anew (by rw [List.length_set]; exact R1.len) (fun j hj => ⟨List.getElem?_set_ne (Ne.symm hj), rfl, by rw [if_neg hj]⟩) fun j hj => ?_
                    have hj : j = i := Classical.not_not.mp hj
                    subst hj
                    exact ⟨fun b e => by rw [List.getElem?_set_self hi] at e; cases e; rfl, by rw [if_pos rfl]⟩
                  refine h2 _ w1 σ H1 _ _ _ Ra ?_
                  have gi : an ∈ fp1 i := by rw [f1]; exact List.mem_cons_of_mem _ g2
                  have npf : ∀ c ∈ fp1 i, ¬ pfAt w1 fp1 (fun j => j ≠ i) c := fun c hc h => by
                    rcases h with h | ⟨j, hj, h⟩
                    · exact (R1.own _ c hc).2.1 h
                    · exact hj (R1.dj _ _ c h hc)
                  have bk : ∀ {w' : World} {H' : Hp} {z2 : Z} {fp2 : Nat → List Addr}, Rel F.K ⟨H1, w1, pfAt w1 fp1 (fun j => j ≠ i)⟩ w' σ H' z2 fp2 → Rel F.K fr w' σ H' ⟨z2.e.set i (.ms bs), z2.s⟩ (fun j => if j = i then fp1 i else fp2 j) ∧ i < z2.e.length := fun {w' H' z2 fp2} R2 => by
                    have hl2 : i < z2.e.length := by have := R2.len; have := R1.len; omega
                    refine ⟨R1.back R2 (by rw [List.length_set]; exact R2.len) (fun j hj => ⟨List.getElem?_set_ne (Ne.symm hj), rfl, by rw [if_neg hj]⟩) fun j hj => ?_, hl2⟩
                    have hj : j = i := Classical.not_not.mp hj
                    subst hj
                    exact ⟨by rw [List.getElem?_set_self hl2]; exact e1.symm, rfl, by rw [if_pos rfl]⟩
                  cases q2 : m ⟨z1.e.set i .un, z1.s⟩ with
                  | ex c z2 =>
                    simp only [q2] at q
                    exact fun w' H' fp' R' l' => q w' H' _ (bk R').1 l'
                  | no => simp only [q2] at q; exact q
                  | ok d z2 =>
                    simp only [q2] at q
                    intro w2 H2 fp2 R2 l2 v rv2
                    obtain ⟨R3, hl2⟩ := bk R2
                    have keep : ∀ c ∈ fp1 i, ∀ o, H1 c = some o → H2 c = some o := fun c hc o ho => R2.frame c o ho (npf c hc)
                    by_cases hsz : ds.length < sizeLine
                    · rw [if_pos hsz] at q
                      refine ⟨an, us, v, rfl, rfl, keep an gi _ g3, by rw [g4.length]; exact hsz, ?_⟩
                      have sR : SlotsR F.K w2 H2 vs bs f := SlotsR.mono l2 (fun c hc o ho => keep c (by rw [f1]; exact List.mem_cons_of_mem _ hc) o ho) rv
                      obtain ⟨an', us', k1, k2, k3, k4, k5⟩ := SlotsR.at sR (List.nodup_cons.mp nd1).2 e3
                      rw [g1] at k1
                      cases k1
                      rw [keep an gi _ g3] at k3
                      cases k3
                      have haan : an ≠ a := fun h => (List.nodup_cons.mp nd1).1 (by rw [← h]; exact g2)
                      have R4 := R3.write (i := i) (a := an) (u := .lst (us ++ [v])) (b' := .ms (bs.set n (.ml (ds ++ [d])))) (by rw [if_pos rfl]; exact gi) (by rw [List.length_set]; exact hl2) (by
                        rw [if_pos rfl]
                        exact ⟨a, vs, f, s0, f1, by rw [upd_ne (Ne.symm haan)]; exact keep a (by rw [f1]; simp) _ q1, k5 _ _ (k4.append (.one rv2))⟩)
                      have es : (z2.e.set i (.ms bs)).set i (.ms (bs.set n (.ml (ds ++ [d])))) = z2.e.set i (.ms (bs.set n (.ml (ds ++ [d])))) := List.set_set _
                      rw [show (⟨z2.e.set i (.ms bs), z2.s⟩ : Z).e = z2.e.set i (.ms bs) from rfl, es] at R4
                      exact q w2 _ _ R4 l2 _ .non
                    · rw [if_neg hsz] at q; exact q.elim
                | _ => simp only [e3] at q; exact q.elim
          | _ => simp only [e1] at q; exact q.elim
        | _ => simp only [e1] at q; exact q.elim
    | _ => simp only [e0] at q; exact q.elim
end
end M
namespace M
open PySem L2
open PyProof.Rows (envOfC)

/-! ## try: .. except X: .. -/
def Fam.tr (F : Fam) (W : WX) : Fam where
  C := fun Y => ∃ X, F.C X ∧ ∃ (pn : List (Addr × Obj)) (xe : Value → Shared → Prop), Y = X.tr pn xe ∧ Takes Y W ∧ PassesOwn (model X.prog X.w) X.A X.env xe
  P := F.P
  w := F.w
  K := F.K
  mg := F.mg
  base := F.base
  N := F.N
  nd := F.nd
  sc := F.sc
  fn := F.fn
  lvl := F.lvl
  cal := F.cal
  W := W
  eqs := fun Y ⟨X, hX, pn, xe, e, _⟩ => by subst e; exact F.eqs X hX
  calm := fun Y ⟨X, hX, pn, xe, e, _⟩ hc => by subst e; exact F.calm X hX hc
  room := fun Y ⟨X, hX, pn, xe, e, _⟩ hc => by subst e; exact F.room X hX hc
  tk := fun Y ⟨X, hX, pn, xe, e, h, _⟩ hc => h
  pass := fun Y ⟨X, hX, pn, xe, e, _, h⟩ => by subst e; exact h
def Fam.suite (F : Fam) : Fam where
  C := fun Y => ∃ X, F.C X ∧ ∃ (a : Addr) (pn : List (Addr × Obj)), Y = X.suite a pn
  P := F.P
  w := F.w
  K := F.K
  mg := F.mg
  base := F.base
  N := F.N
  nd := F.nd
  sc := F.sc
  fn := F.fn
  lvl := F.lvl
  cal := false
  W := fun _ _ _ _ => False
  eqs := fun Y ⟨X, hX, a, pn, e⟩ => by subst e; exact F.eqs X hX
  calm := fun _ _ hc => by cases hc
  room := fun _ _ hc => by cases hc
  tk := fun _ _ hc => by cases hc
  pass := fun Y ⟨X, hX, a, pn, e⟩ => by subst e; exact PassesOwn.never
/-- yes: what the clause takes; no: what it lets by -/
structure HdM where
  yes : List Str
  no : List Str
  m : Mi Fl
def mHand : List HdM → Str → Z → R Fl
  | [], c, z => .ex c z
  | h :: hs, c, z => if c ∈ h.yes then (match h.m z with | .ex _ _ => .no | r => r) else if c ∈ h.no then mHand hs c z else .no
def mTry (m : Mi Fl) (hs : List HdM) : Mi Fl := fun z => match m z with
  | .ex c z' => mHand hs c z'
  | r => r
section
variable {F : Fam}
inductive SHd (F : Fam) : List ExceptHandler → List HdM → Prop
  | nil : SHd F [] []
  | cons {x : Str} {b : Stmt} {suite : List Stmt} {np pos' : Pos} {hds : List ExceptHandler} {h : HdM} {hs : List HdM} (hg : F.sc.names.lookup x = some .globalImplicit) (hdb : (x == ("__debug__" : Str)) = false) (hx : ∃ C, F.mg x = some (.ref C))
      (hy : ∀ c ∈ h.yes, PySem.W.exmOne F.K ((F.mg c).getD .none) ((F.mg x).getD .none) = some true) (hn : ∀ c ∈ h.no, PySem.W.exmOne F.K ((F.mg c).getD .none) ((F.mg x).getD .none) = some false)
      (hm : SSs F.suite (b :: suite) h.m) (r : SHd F hds hs) : SHd F (.ExceptHandler (some (.Name x np)) none (b :: suite) pos' :: hds) (h :: hs)
theorem shd_ok {hds : List ExceptHandler} {hs : List HdM} (h : SHd F hds hs) : ∃ l, (∀ X, F.C X → HdsOk X hds l) ∧
    ∀ fr w σ H z fp (E : Ends) (c : Str), Rel F.K fr w σ H z fp → EnsS F fr w (mHand hs c z) E → wMany F.K F.W E l ((F.mg c).getD .none) none σ H := by
  induction h with
  | nil => exact ⟨[], fun _ _ => .nil, fun fr w σ H z fp E c R q => q σ w H fp R (World.le_refl w)⟩
  | @cons x b suite np pos' hds h hs hg hdb hx hy hn hm r ih =>
    obtain ⟨l, l1, l2⟩ := ih
    obtain ⟨t, t1, t2⟩ := hm.ex
    obtain ⟨C, hC⟩ := hx
    refine ⟨((F.mg x).getD .none, fun _ _ _ => t) :: l, fun X hX => ?_, fun fr w σ H z fp E c R q => ?_⟩
    · obtain ⟨e1, e2, e3, e4, e5, e6, e7, e8⟩ := F.eqs X hX
      refine .cons ⟨by show X.env.scope.names.lookup x = _; rw [e7]; exact hg, hdb, .inl (by rw [e4, hC]; rfl)⟩ (fun a oe cls d pn _ _ => t1 _ ⟨X, hX, a, _, rfl⟩) (l1 X hX)
    · have q : EnsS F fr w (if c ∈ h.yes then (match h.m z with | .ex _ _ => .no | r => r) else if c ∈ h.no then mHand hs c z else .no) E := q
      by_cases hc : c ∈ h.yes
      · rw [if_pos hc] at q
        refine ⟨true, hy c hc, fun _ a _ => t2 fr w σ H z fp E R ?_, fun e => Bool.noConfusion e⟩
        cases e1 : h.m z with
        | ok f z' =>
          rw [e1] at q
          cases f with
          | nx => exact q
          | bk => exact q
          | ct => exact q
          | rt d => exact q
        | ex c' z' => rw [e1] at q; exact q.elim
        | no => rw [e1] at q; exact q.elim
      · rw [if_neg hc] at q
        by_cases hc2 : c ∈ h.no
        · rw [if_pos hc2] at q
          exact ⟨false, hn c hc2, fun e => Bool.noConfusion e, fun _ => l2 fr w σ H z fp E c R q⟩
        · rw [if_neg hc2] at q; exact q.elim
theorem ss_try {body : List Stmt} {h₀ : ExceptHandler} {hds : List ExceptHandler} {hs : List HdM} {m : Mi Fl} {pos : Pos} (hb : ∀ W, SSs (F.tr W) body m) (hh : SHd F (h₀ :: hds) hs) (hst : ∀ X, F.C X → X.stack = X.env :: X.outer ∧ X.env.frame = some X.env.locals) (hc : F.cal = true := by rfl) :
    SS F (.Try body (h₀ :: hds) [] [] pos) (mTry m hs) := by
  obtain ⟨l, l1, l2⟩ := shd_ok hh
  have hb2 : ∃ tb : WX → TS, ∀ W, (∀ X, (F.tr W).C X → PSs X body (tb W)) ∧ TSD (F.tr W) (tb W) m := ⟨fun W => Classical.choose (hb W).ex, fun W => Classical.choose_spec (hb W).ex⟩
  obtain ⟨tb, tb1⟩ := hb2
  refine ⟨fun D σ H => tb (wMany F.K F.W D l) D σ H, fun X hX => ?_, fun fr w σ H z fp E R q => ?_⟩
  · obtain ⟨e1, e2, e3, e4, e5, e6, e7, e8⟩ := F.eqs X hX
    have := ps_try_many (pos := pos) (hst X hX).1 (hst X hX).2 (F.tk X hX hc) (tb := tb) (fun W pn xe tk ps => (tb1 W).1 _ ⟨X, hX, pn, xe, rfl, tk, ps⟩) (l1 X hX)
    rw [e3] at this
    exact this
  · refine (tb1 _).2 fr w σ H z fp E R ?_
    unfold mTry at q
    cases e1 : m z with
    | ok f z' =>
      rw [e1] at q
      cases f with
      | nx => exact q
      | bk => exact q
      | ct => exact q
      | rt d => exact q
    | ex c z' =>
      rw [e1] at q
      exact fun σ' w' H' fp' R' l' => l2 fr w' σ' H' z' fp' E c R' (EnsS.up l' q)
    | no => rw [e1] at q; exact q
end
/-! ## a def that calls itself: no call at the bottom -/
theorem cal_no {S : Bs} {x qual : Str} {st : Stmt} {fa : Addr} {fd : FuncData} {N ps : List Str} (n : Nat) (Fu : Fun S.K x qual st fa fd) (mgx : S.mg x = some (.ref fa)) (hS : FnScope N ps (defScope st)) (bd : Binds S.K fd ps []) (hn : ps.length = n) :
    Cal S x n 0 (fun _ _ => .no) := by
  exact ⟨fa, fd, ps, ⟨fun vs H Q E h => (by obtain ⟨_, _, _, _, _, _, h⟩ := h; exact h.elim), fun A outer s H args us vs Q E hr he hb hv h => (by obtain ⟨_, _, _, _, _, _, h⟩ := h; exact h.elim)⟩, mgx, Fu.kp, bd, hn⟩
end M
namespace M
open PySem L2
open PyProof.Rows (envOfC)

/-! ## shared objects -/
theorem flat_uq {α : Type} : ∀ {L : List (List α)} {i j : Nat} {l l' : List α} {a : α}, L.flatten.Nodup → L[i]? = some l → L[j]? = some l' → a ∈ l → a ∈ l' → i = j
  | [], _, _, _, _, _, _, h, _, _, _ => by cases h
  | x :: L, 0, 0, _, _, _, _, _, _, _, _ => rfl
  | x :: L, 0, j + 1, _, _, a, hn, h, h', m, m' => by
    cases h
    exact absurd rfl ((List.nodup_append.mp hn).2.2 a m a (List.mem_flatten.mpr ⟨_, List.mem_of_getElem? h', m'⟩))
  | x :: L, i + 1, 0, _, _, a, hn, h, h', m, m' => by
    cases h'
    exact absurd rfl ((List.nodup_append.mp hn).2.2 a m' a (List.mem_flatten.mpr ⟨_, List.mem_of_getElem? h, m⟩))
  | x :: L, i + 1, j + 1, _, _, a, hn, h, h', m, m' => by
    rw [flat_uq (L := L) (List.nodup_append.mp hn).2.1 h h' m m']
section
variable {K : PySem.W.Frag} {fr : Fr} {w : World} {σ : St} {H : Hp} {z : Z} {e : List B} {s : List SObj} {fp : Nat → List Addr} {b : B} {v : V} {o : SObj}
def shB : B → Option SObj
  | .ml ds => some (.lst ds)
  | .md ks ds => some (.dic ks ds)
  | _ => none
theorem Rel.share (R : Rel K fr w (σ ++ [some v]) H ⟨e ++ [b], s⟩ fp) (h : shB b = some o) : ∃ w' fp', w.le w' ∧ Rel K fr w' σ H ⟨e, s ++ [o]⟩ fp' ∧ Rep K w' v (.ref s.length) := by
  have hl : σ.length = e.length := by have := R.len; simpa using this
  have s0 := R.slots e.length b (by show (e ++ [b])[e.length]? = _; rw [List.getElem?_append_right (Nat.le_refl _), Nat.sub_self]; rfl)
  rw [← hl, slot_app_last] at s0
  have hs : ∃ a, v = .ref a ∧ fp σ.length = [a] ∧ SObjR K w H [a] o := by
    cases b with
    | ml ds => cases h; obtain ⟨a, vs, e1, e2, e3, e4⟩ := s0; cases e1; exact ⟨a, rfl, e2, a, vs, rfl, e3, e4⟩
    | md ks ds => cases h; obtain ⟨a, kvs, e1, e2, e3, e4, e5⟩ := s0; cases e1; exact ⟨a, rfl, e2, a, kvs, rfl, e3, e4, e5⟩
    | _ => cases h
  obtain ⟨a, rfl, f0, so⟩ := hs
  rw [hl] at f0
  have ha : a ∈ fp e.length := by rw [f0]; simp
  obtain ⟨a0, am, ai⟩ := R.own _ a ha
  have l : w.le ⟨w.H0, w.mu ++ [[a]]⟩ := ⟨fun _ _ h => h, [[a]], rfl⟩
  have mem : ∀ {j c}, c ∈ (if j < e.length then fp j else []) → c ∈ fp j ∧ j < e.length := fun {j c} m => by
    split at m
    · rename_i h; exact ⟨m, h⟩
    · cases m
  refine ⟨⟨w.H0, w.mu ++ [[a]]⟩, fun j => if j < e.length then fp j else [], l, ?_, .ref (fp := []) (by rw [← R.shl]; exact List.getElem?_append_right (Nat.le_refl _) ▸ (by rw [Nat.sub_self]; rfl))⟩
  refine ⟨R.sub, World.le_trans R.ge l, R.frame, R.dom, R.fresh, hl, fun j b' q => ?_, fun j q => ?_, fun j c m => ?_, fun j => ?_, fun j k c m m' => ?_, by simp [R.shl], fun n l' u q q' => ?_, ?_, fun c m => ?_⟩
  · have hj : j < e.length := (List.getElem?_eq_some_iff.mp q).1
    rw [if_pos hj]
    have := R.slots j b' (by show (e ++ [b])[j]? = _; rw [List.getElem?_append_left hj]; exact q)
    rw [slot_app_left (by omega)] at this
    exact SlotR.mono l (fun _ _ _ q => q) this
  · rw [if_neg fun hj => by have q : e[j]? = none := q; rw [List.getElem?_eq_getElem hj] at q; cases q]
  · obtain ⟨m, hj⟩ := mem m
    obtain ⟨b1, b2, b3⟩ := R.own j c m
    refine ⟨b1, fun h => ?_, b3⟩
    have h : c ∈ (w.mu ++ [[a]]).flatten := h
    rw [List.flatten_append] at h
    rcases List.mem_append.mp h with h | h
    · exact b2 h
    · have h : c = a := by simpa using h
      subst h
      have := R.dj _ _ c m ha
      omega
  · split
    · exact R.nd j
    · exact List.nodup_nil
  · exact R.dj j k c (mem m).1 (mem m').1
  · have q : (w.mu ++ [[a]])[n]? = some l' := q
    have q' : (s ++ [o])[n]? = some u := q'
    by_cases hn : n < s.length
    · rw [List.getElem?_append_left hn] at q'
      rw [List.getElem?_append_left (by have := R.shl; simpa using this ▸ hn)] at q
      exact (R.sh n l' u q q').mono l fun _ _ _ k => k
    · have hn2 : n = s.length := by
        have := (List.getElem?_eq_some_iff.mp q').1
        simp at this
        omega
      subst hn2
      rw [List.getElem?_append_right (Nat.le_refl _), Nat.sub_self] at q'
      cases q'
      have hm : w.mu.length = s.length := R.shl
      rw [← hm, List.getElem?_append_right (Nat.le_refl _), Nat.sub_self] at q
      cases q
      exact so.mono l fun _ _ _ k => k
  · show (w.mu ++ [[a]]).flatten.Nodup
    rw [List.flatten_append, List.nodup_append]
    refine ⟨R.shd, by simp, fun c hc d hd h => ?_⟩
    have hd : d = a := by simpa using hd
    subst hd; subst h
    exact am hc
  · have m : c ∈ (w.mu ++ [[a]]).flatten := m
    rw [List.flatten_append] at m
    rcases List.mem_append.mp m with m | m
    · exact R.sh0 c m
    · have h : c = a := by simpa using m
      subst h
      exact ⟨a0, ai⟩
def vw (s : List SObj) : D → D
  | .ref n => match s[n]? with
    | some (.lst ds) => .lst ds
    | some (.dic ks ds) => .dic ks ds
    | none => .ref n
  | d => d
/-- a shared thing, by its address -/
theorem Rel.shared (R : Rel K fr w σ H z fp) {n : Nat} (h : z.s[n]? = some o) (r : Rep K w v (.ref n)) : ∃ a, v = .ref a ∧ w.mu[n]? = some [a] ∧ SObjR K w H [a] o := by
  cases r with
  | ref e =>
    rename_i a f
    have so := R.sh n _ o e h
    have : f = [] := by
      cases o with
      | lst ds => obtain ⟨_, _, q, _⟩ := so; cases q; rfl
      | dic ks ds => obtain ⟨_, _, q, _⟩ := so; cases q; rfl
    subst this
    exact ⟨a, rfl, e, so⟩
theorem Rel.view (R : Rel K fr w σ H z fp) {d : D} (r : Rep K w v d) : RepN K w H v (vw z.s d) := by
  cases d with
  | ref n =>
    show RepN K w H v (match z.s[n]? with
      | some (.lst ds) => .lst ds
      | some (.dic ks ds) => .dic ks ds
      | none => .ref n)
    cases e : z.s[n]? with
    | none => exact .of r
    | some o =>
      obtain ⟨a, rfl, _, so⟩ := R.shared e r
      cases o with
      | lst ds => obtain ⟨a', vs, q, h1, h2⟩ := so; cases q; exact .ml h1 h2
      | dic ks ds => obtain ⟨a', kvs, q, h1, rfl, h3⟩ := so; cases q; exact .md h1 h3
  | _ => exact .of r
/-- a shared thing is written to -/
theorem Rel.swrite (R : Rel K fr w σ H z fp) {n : Nat} {a : Addr} {u : HO} {o' : SObj} (hm : w.mu[n]? = some [a]) (hs : SObjR K w (upd H a u) [a] o') : Rel K fr w σ (upd H a u) ⟨z.e, z.s.set n o'⟩ fp := by
  have ha : a ∈ w.mu.flatten := List.mem_flatten.mpr ⟨[a], List.mem_of_getElem? hm, by simp⟩
  obtain ⟨a1, a3⟩ := R.sh0 a ha
  obtain ⟨u0, hu0⟩ := R.sh_there ha
  have hn : n < z.s.length := by have := (List.getElem?_eq_some_iff.mp hm).1; rw [R.shl] at this; exact this
  have uq : ∀ {k : Nat} {l : List Addr}, w.mu[k]? = some l → a ∈ l → k = n := fun {k l} hk hl => by
    exact flat_uq R.shd hk hm hl (by simp)
  refine ⟨fun c x e => by rw [upd_ne (fun h => by rw [h, a1] at e; cases e)]; exact R.sub c x e, R.ge, fun c x e n' => ?_, fun c x e => ?_, R.fresh, R.len, fun j b e => ?_, R.away, R.own, R.nd, R.dj, by rw [List.length_set]; exact R.shl, fun k l x e e' => ?_, R.shd, R.sh0⟩
  · have h : c ≠ a := fun h => by
      subst h
      rcases a3 with q | q
      · rw [e] at q; cases q
      · exact n' q
    rw [upd_ne h]; exact R.frame c x e n'
  · by_cases h : c = a
    · subst h; exact ⟨u, upd_same⟩
    · obtain ⟨x', q⟩ := R.dom c x e
      exact ⟨x', by rw [upd_ne h]; exact q⟩
  · refine SlotR.mono (World.le_refl w) (fun c m x q => ?_) (R.slots j b e)
    rw [upd_ne fun h => (R.own j c m).2.1 (by rw [h]; exact ha)]
    exact q
  · by_cases hk : k = n
    · subst hk
      have e' : (z.s.set k o')[k]? = some x := e'
      rw [List.getElem?_set_self hn] at e'
      cases e'
      rw [hm] at e
      cases e
      exact hs
    · have e' : (z.s.set n o')[k]? = some x := e'
      rw [List.getElem?_set_ne (Ne.symm hk)] at e'
      refine (R.sh k l x e e').mono (World.le_refl w) fun c m y q => ?_
      rw [upd_ne fun h => hk (uq e (by rw [← h]; exact m))]
      exact q
end
section
variable {F : Fam} {a b e e' : Expr} {pos : Pos} {m m' ma mb : Mi D} {x : Str} {p : Pos} {r : R2} {g : D → D → Option D} {ta tb : TE}
def mShare (m : Mi B) : Mi D := mBind m fun b z => match shB b with
  | some o => .ok (.ref z.s.length) ⟨z.e, z.s ++ [o]⟩
  | none => .no
theorem se_share {m : Mi B} (h : SB F e m) : SE F e (mShare m) := by
  obtain ⟨te, h1, h2⟩ := h.ex
  refine ⟨te, h1, fun fr w σ H z fp Q R q => h2 fr w σ H z fp Q R ?_⟩
  unfold mShare mBind at q
  cases e1 : m z with
  | ok b z' =>
    rw [e1] at q
    intro v w' H' fp' R' l
    cases e2 : shB b with
    | none => simp only [e2] at q; exact q.elim
    | some o =>
      simp only [e2] at q
      obtain ⟨w2, fp2, l2, R2, r2⟩ := R'.share e2
      exact q w2 H' fp2 R2 (World.le_trans l l2) v r2
  | ex c z' => rw [e1] at q; exact q
  | no => rw [e1] at q; exact q
def mView (m : Mi D) : Mi D := mBind m fun d z => .ok (vw z.s d) z
theorem sn_view (h : SE F e m) : SN F e (mView m) := by
  obtain ⟨te, h1, h2⟩ := h.ex
  refine ⟨te, h1, fun fr w σ H z fp Q R q => h2 fr w σ H z fp _ R (q.cut.imp fun d w1 H1 z1 fp1 R1 l1 k v rv => ?_)⟩
  exact k.2.2 w1 H1 fp1 R1 (World.le_refl w1) v (R1.view rv)
/-- .. the left one as it stands when the right one is known -/
def mOpV (g : D → D → Option D) (ma mb : Mi D) : Mi D := mBind ma fun a => mBind mb fun b z => mLift (g (vw z.s a) b) z
theorem ted_opV (ho : OpN F r g) (ha : TED F ta ma) (hb : TND F tb mb) : TED F (tOp r ta tb) (mOpV g ma mb) := fun fr w σ H z fp Q R h => by
  refine ha fr w σ H z fp _ R (h.cut.imp fun a w1 H1 z1 fp1 R1 l1 k v1 r1 => ?_)
  refine hb fr w1 σ H1 z1 fp1 _ R1 (k.2.2.cut.imp fun b w2 H2 z2 fp2 R2 l2 k2 v2 r2 => ?_)
  have k2 := k2.2.2
  cases e : g (vw z2.s a) b with
  | none => rw [e] at k2; exact k2.elim
  | some d =>
    rw [e] at k2
    exact ho fr w2 σ H2 z2 fp2 v1 v2 _ b d Q R2 (R2.view (r1.mono l2)) r2 e fun v w' H' fp' R' l' rv => k2 w' H' fp' R' l' v rv
theorem se_ixV (ha : SE F a ma) (hb : SN F b mb) (hs : PlainIx b := by exact fun _ _ => rfl) : SE F (.Subscript a b pos) (mOpV gIx ma mb) := by
  obtain ⟨ta, a1, a2⟩ := ha.ex
  obtain ⟨tb, b1, b2⟩ := hb.ex
  exact ⟨_, fun X hX => pe_ix (ixr hX) (a1 X hX) (b1 X hX) hs, ted_opV opn_ix a2 b2⟩
theorem se_dgetV (ha : SE F a ma) (hb : SN F b mb) (hc : F.cal = true := by rfl) (hs : NoSl b := by exact fun _ _ => rfl) : SE F (.Subscript a b pos) (mOpV gDGet ma mb) := by
  obtain ⟨ta, a1, a2⟩ := ha.ex
  obtain ⟨tb, b1, b2⟩ := hb.ex
  exact ⟨_, fun X hX => pe_dget (hu_of (F.room X hX hc)) (a1 X hX) (b1 X hX) hs, ted_opV opn_dget a2 b2⟩
theorem se_eqV (ha : SE F a ma) (hb : SN F b mb) (hc : F.cal = true := by rfl) : SE F (.Compare a [.Eq] [b] pos) (mOpV gEq ma mb) := by
  obtain ⟨ta, a1, a2⟩ := ha.ex
  obtain ⟨tb, b1, b2⟩ := hb.ex
  exact ⟨_, fun X hX => pe_cmpR (opr_eq hX hc) (a1 X hX) (b1 X hX) (nomark _), ted_opV opn_eq a2 b2⟩
theorem se_neV (ha : SE F a ma) (hb : SN F b mb) (hc : F.cal = true := by rfl) : SE F (.Compare a [.NotEq] [b] pos) (mOpV gNe ma mb) := by
  obtain ⟨ta, a1, a2⟩ := ha.ex
  obtain ⟨tb, b1, b2⟩ := hb.ex
  exact ⟨_, fun X hX => pe_cmpR (opr_ne hX hc) (a1 X hX) (b1 X hX) (nomark _), ted_opV opn_ne a2 b2⟩
/-! ### x.append(e), x.pop(i), x a shared list -/
def mSApp (mx m : Mi D) : Mi D := mBind mx fun d z => match d with
  | .ref n => (match z.s[n]? with
    | some (.lst _) => mBind m (fun y z1 => match z1.s[n]? with
      | some (.lst ds) => if ds.length < sizeLine then .ok .non ⟨z1.e, z1.s.set n (.lst (ds ++ [y]))⟩ else .no
      | _ => .no) z
    | _ => .no)
  | _ => .no
theorem SObjR.isL {K : PySem.W.Frag} {w : World} {H : Hp} {a : Addr} {ds : List D} (h : SObjR K w H [a] (.lst ds)) : ∃ vs, H a = some (.lst vs) ∧ RepL K w vs ds := by
  obtain ⟨a', vs, q, h1, h2⟩ := h
  cases q
  exact ⟨vs, h1, h2⟩
theorem SObjR.isD {K : PySem.W.Frag} {w : World} {H : Hp} {a : Addr} {ks : List Key} {ds : List D} (h : SObjR K w H [a] (.dic ks ds)) : ∃ kvs : List (Key × V), H a = some (.dK kvs) ∧ kvs.map (·.1) = ks ∧ RepL K w (kvs.map (·.2)) ds := by
  obtain ⟨a', kvs, q, h1, h2, h3⟩ := h
  cases q
  exact ⟨kvs, h1, h2, h3⟩
theorem se_sapp {apos cpos : Pos} (hx : SE F e m) (h : SE F e' m') (hs : ∀ env, starEach [e'] env = (false, eval e' env) :: starEach [] env := by intro _; rfl) (hb : ∀ env, attributeBase e ("append" : Str) env (eval e env) = eval e env := by intro _; rfl) (hline : (apos.endLine == cpos.line) = true := by rfl) :
    SE F (.Call (.Attribute e ("append" : Str) apos) [e'] [] cpos) (mSApp m m') := by
  obtain ⟨tx, x1, x2⟩ := hx.ex
  obtain ⟨te, h1, h2⟩ := h.ex
  refine ⟨_, fun X hX => pe_methE hX PySem.F.plainAttrs_list PySem.F.slot_list_append PySem.F.type_list_append mt_append (x1 X hX) (h1 X hX) hs hb hline, fun fr w σ H z fp Q R q => ?_⟩
  refine x2 fr w σ H z fp _ R ((Ens.cut q).imp fun d w1 H1 z1 fp1 R1 l1 q v rv => ?_)
  have q := q.2.2
  cases d with
  | ref n =>
    cases e1 : z1.s[n]? with
    | none => simp only [e1] at q; exact q.elim
    | some o =>
      cases o with
      | lst ds0 =>
        simp only [e1] at q
        obtain ⟨ad, rfl, hm, so⟩ := R1.shared e1 rv
        obtain ⟨vs0, h0, _⟩ := so.isL
        refine ⟨.inl ⟨rfl, vs0, .inl (.inl h0)⟩, ?_⟩
        refine h2 fr w1 σ H1 z1 fp1 _ R1 (q.cut.imp fun y w2 H2 z2 fp2 R2 l2 q u ru => ?_)
        have q := q.2.2
        cases e2 : z2.s[n]? with
        | none => simp only [e2] at q; exact q.elim
        | some o =>
          cases o with
          | lst ds =>
            simp only [e2] at q
            obtain ⟨ad', ea, hm2, so2⟩ := R2.shared e2 (rv.mono l2)
            cases ea
            obtain ⟨vs, h3, h4⟩ := so2.isL
            by_cases hl : ds.length < sizeLine
            · rw [if_pos hl] at q
              exact ⟨ad, vs, u, rfl, rfl, h3, by rw [h4.length]; exact hl, q w2 _ fp2 (R2.swrite hm2 ⟨ad, _, rfl, upd_same, h4.append (.one ru)⟩) (World.le_refl w2) _ .non⟩
            · rw [if_neg hl] at q; exact q.elim
          | _ => simp only [e2] at q; exact q.elim
      | _ => simp only [e1] at q; exact q.elim
  | _ => exact q.elim
def mSPop (mx m : Mi D) : Mi D := mBind mx fun d z => match d with
  | .ref n => (match z.s[n]? with
    | some (.lst _) => mBind m (fun y z1 => match z1.s[n]?, y with
      | some (.lst ds), .int k => if -(2 ^ 63) ≤ k ∧ k < 2 ^ 63 then (match seqIndex? k ds.length with
        | some j => (match ds[j]? with
          | some y => .ok y ⟨z1.e, z1.s.set n (.lst (ds.eraseIdx j))⟩
          | none => .no)
        | none => .no) else .no
      | _, _ => .no) z
    | _ => .no)
  | _ => .no
theorem se_spop {apos cpos : Pos} (hx : SE F e m) (h : SE F e' m') (hs : ∀ env, starEach [e'] env = (false, eval e' env) :: starEach [] env := by intro _; rfl) (hb : ∀ env, attributeBase e ("pop" : Str) env (eval e env) = eval e env := by intro _; rfl) (hline : (apos.endLine == cpos.line) = true := by rfl) :
    SE F (.Call (.Attribute e ("pop" : Str) apos) [e'] [] cpos) (mSPop m m') := by
  obtain ⟨tx, x1, x2⟩ := hx.ex
  obtain ⟨te, h1, h2⟩ := h.ex
  refine ⟨_, fun X hX => pe_methE hX PySem.F.plainAttrs_list PySem.F.slot_list_pop PySem.F.type_list_pop mt_popAt (x1 X hX) (h1 X hX) hs hb hline, fun fr w σ H z fp Q R q => ?_⟩
  refine x2 fr w σ H z fp _ R ((Ens.cut q).imp fun d w1 H1 z1 fp1 R1 l1 q v rv => ?_)
  have q := q.2.2
  cases d with
  | ref n =>
    cases e1 : z1.s[n]? with
    | none => simp only [e1] at q; exact q.elim
    | some o =>
      cases o with
      | lst ds0 =>
        simp only [e1] at q
        obtain ⟨ad, rfl, hm, so⟩ := R1.shared e1 rv
        obtain ⟨vs0, h0, _⟩ := so.isL
        refine ⟨.inl ⟨rfl, vs0, .inl (.inl h0)⟩, ?_⟩
        refine h2 fr w1 σ H1 z1 fp1 _ R1 (q.cut.imp fun y w2 H2 z2 fp2 R2 l2 q u ru => ?_)
        have q := q.2.2
        cases e2 : z2.s[n]? with
        | none => simp only [e2] at q; exact q.elim
        | some o =>
          cases o with
          | lst ds =>
            cases y with
            | int k =>
              simp only [e2] at q
              cases ru
              obtain ⟨ad', ea, hm2, so2⟩ := R2.shared e2 (rv.mono l2)
              cases ea
              obtain ⟨vs, h3, h4⟩ := so2.isL
              have q : Ens F fr w2 σ (if -(2 ^ 63) ≤ k ∧ k < 2 ^ 63 then (match seqIndex? k ds.length with
                | some j => (match ds[j]? with
                  | some y => M.R.ok y ⟨z2.e, z2.s.set n (.lst (ds.eraseIdx j))⟩
                  | none => .no)
                | none => .no) else .no) _ := q
              by_cases hl : -(2 ^ 63) ≤ k ∧ k < 2 ^ 63
              · rw [if_pos hl] at q
                cases e3 : seqIndex? k ds.length with
                | none => rw [e3] at q; exact q.elim
                | some j =>
                  rw [e3] at q
                  cases e4 : ds[j]? with
                  | none => simp only [e4] at q; exact q.elim
                  | some y =>
                    simp only [e4] at q
                    obtain ⟨u, g1, g2⟩ := h4.get e4
                    exact ⟨ad, vs, k, j, u, rfl, rfl, h3, hl.1, hl.2, by rw [h4.length]; exact e3, g1, q w2 _ fp2 (R2.swrite hm2 ⟨ad, _, rfl, upd_same, h4.eraseIdx j⟩) (World.le_refl w2) u g2⟩
              · rw [if_neg hl] at q; exact q.elim
            | _ => simp only [e2] at q; exact q.elim
          | _ => simp only [e2] at q; exact q.elim
      | _ => simp only [e1] at q; exact q.elim
  | _ => exact q.elim
end
end M
namespace M
open PySem L2
open PyProof.Rows (envOfC)

/-! ## targets that write -/
def EnsT (F : Fam) (fr : Fr) (w : World) (r : R Unit) (Q : St → Hp → Prop) : Prop := match r with
  | .ok _ z' => ∀ σ' w' H' fp', Rel F.K fr w' σ' H' z' fp' → w.le w' → Q σ' H'
  | .ex c z' => ∀ σ' w' H' fp', Rel F.K fr w' σ' H' z' fp' → w.le w' → F.raise c σ' H'
  | .no => False
def TG2 (F : Fam) (g : TG) (t : D → Mi Unit) : Prop := ∀ fr w σ H z fp v d (Q : St → Hp → Prop), Rel F.K fr w σ H z fp → Rep F.K w v d → EnsT F fr w (t d z) Q → (∀ c σ' H', F.raise c σ' H' → F.raise c σ' H') → g v σ H Q
section
variable {F : Fam}
theorem EnsT.up {fr : Fr} {w w' : World} {r : R Unit} {Q : St → Hp → Prop} (l : w.le w') (h : EnsT F fr w r Q) : EnsT F fr w' r Q := by
  cases r with
  | ok a z' => exact fun σ' w'' H' fp' R l' => h σ' w'' H' fp' R (World.le_trans l l')
  | ex c z' => exact fun σ' w'' H' fp' R l' => h σ' w'' H' fp' R (World.le_trans l l')
  | no => exact h
theorem EnsT.cut {α : Type} {fr : Fr} {w : World} {σ : St} {Q : St → Hp → Prop} {m : Mi α} {k : α → Mi Unit} {z : Z} (h : EnsT F fr w (mBind m k z) Q) : Ens F fr w σ (m z) (fun a w' H' z' fp' => Rel F.K fr w' σ H' z' fp' ∧ w.le w' ∧ EnsT F fr w' (k a z') Q) := by
  unfold mBind at h
  cases e : m z with
  | ok a z' => rw [e] at h; exact fun w' H' fp' R l => ⟨R, l, h.up l⟩
  | ex c z' => rw [e] at h; exact fun w' H' fp' R l => h σ w' H' fp' R l
  | no => rw [e] at h; exact h
end
structure SG2 (F : Fam) (tg : Expr) (t : D → Mi Unit) : Prop where
  ex : ∃ g, (∀ X, F.C X → PG X tg g) ∧ TG2 F g t
def TGs2 (F : Fam) (g : TGs) (t : List D → Mi Unit) : Prop := ∀ fr w σ H z fp us ds (Q : St → Hp → Prop), Rel F.K fr w σ H z fp → RepL F.K w us ds → EnsT F fr w (t ds z) Q → g us σ H Q
structure SGs2 (F : Fam) (ts : List Expr) (t : List D → Mi Unit) : Prop where
  ex : ∃ g, (∀ X, F.C X → PGs X ts g) ∧ TGs2 F g t
section
variable {F : Fam} {tg e a b : Expr} {pos : Pos} {x : Str} {p : Pos}
def tgOne (t : D → Z → Option Z) : D → Mi Unit := fun d z => match t d z with
  | some z' => .ok () z'
  | none => .no
theorem SG.w {t : D → Z → Option Z} (h : SG F tg t) : SG2 F tg (tgOne t) := by
  obtain ⟨g, h1, h2⟩ := h.ex
  refine ⟨g, h1, fun fr w σ H z fp v d Q R r q _ => ?_⟩
  unfold tgOne at q
  cases e : t d z with
  | none => rw [e] at q; exact q.elim
  | some z' => rw [e] at q; exact h2 fr w σ H z z' fp v d Q R r e fun σ' fp' R' => q σ' w H fp' R' (World.le_refl w)
def tgs2Nil : List D → Mi Unit
  | [] => mPure ()
  | _ => mNo
def tgs2Cons (t : D → Mi Unit) (u : List D → Mi Unit) : List D → Mi Unit
  | d :: ds => fun z => match t d z with
    | .ok _ z' => u ds z'
    | r => r
  | [] => mNo
theorem sgs2_nil : SGs2 F [] tgs2Nil := ⟨_, fun _ _ => pgs_nil, fun fr w σ H z fp vs ds Q R r q => by
  cases r with
  | nil => exact ⟨rfl, q σ w H fp R (World.le_refl w)⟩
  | cons _ _ => exact q.elim⟩
theorem sgs2_cons {es : List Expr} {t : D → Mi Unit} {u : List D → Mi Unit} (h : SG2 F e t) (k : SGs2 F es u) (hs : ∀ env, (assignEach (e :: es) env).map (·.2) = assign e env :: (assignEach es env).map (·.2) := by intro _; rfl) : SGs2 F (e :: es) (tgs2Cons t u) := by
  obtain ⟨g, h1, h2⟩ := h.ex
  obtain ⟨gs, k1, k2⟩ := k.ex
  refine ⟨_, fun X hX => pgs_cons (h1 X hX) (k1 X hX) (hs X.env), fun fr w σ H z fp vs ds Q R r q => ?_⟩
  cases r with
  | nil => exact q.elim
  | cons r1 r2 =>
    rename_i v vs d ds
    refine ⟨v, vs, rfl, ?_⟩
    have q : EnsT F fr w (match t d z with
      | .ok _ z' => u ds z'
      | r => r) Q := q
    refine h2 fr w σ H z fp v d _ R r1 ?_ fun _ _ _ h => h
    cases e1 : t d z with
    | ok a z1 =>
      rw [e1] at q
      exact fun σ' w' H' fp' R' l' => k2 fr w' σ' H' z1 fp' vs ds Q R' (r2.mono l') (EnsT.up l' q)
    | ex c z1 => rw [e1] at q; exact q
    | no => rw [e1] at q; exact q
def tg2Tup (n : Nat) (t : List D → Mi Unit) : D → Mi Unit
  | .tup ds => if ds.length = n then t ds else mNo
  | _ => mNo
theorem sg2_tup {es : List Expr} {k : Nat} {t : List D → Mi Unit} {n : Nat} (h : SGs2 F es t) (hc : F.cal = true := by rfl) (hn : ∀ env, (assignEach es env).length = n := by intro _; rfl) (hst : ∀ env, (assignEach es env).findIdx? (·.1) = none := by intro _; rfl) : SG2 F (.Tuple es k pos) (tg2Tup n t) := by
  obtain ⟨g, h1, h2⟩ := h.ex
  refine ⟨gTup F.K n g, fun X hX => by have := pg_tup (k := k) (pos := pos) (F.calm X hX hc) (h1 X hX) (hn X.env) (hst X.env); rw [F_K hX] at this; exact this, fun fr w σ H z fp v d Q R r q _ => ?_⟩
  cases d with
  | tup ds =>
    cases r with
    | tup s r =>
      rename_i a vs
      have q : EnsT F fr w ((if ds.length = n then t ds else mNo) z) Q := q
      by_cases hl : ds.length = n
      · rw [if_pos hl] at q
        exact ⟨a, vs, rfl, R.sqT s, by rw [r.length]; exact hl, h2 fr w σ H z fp vs ds Q R r q⟩
      · rw [if_neg hl] at q; exact q.elim
  | _ => exact q.elim
/-- a store in a list or dict -/
def putO (o : SObj) (i d : D) : Option SObj := match o, i with
  | .lst ds, .int k => (ixN ds.length k).map fun j => .lst (ds.set j d)
  | .dic ks ds, .int k => if ks.length < sizeLine then some (.dic (putKs ks (.inl k)) (putDs ks ds (.inl k) d)) else none
  | .dic ks ds, .str k => if ks.length < sizeLine then some (.dic (putKs ks (.inr k)) (putDs ks ds (.inr k) d)) else none
  | _, _ => none
def rPut : TSet := fun o i v H Q => rSetL o i v H Q ∨ ∃ a H', o = .ref a ∧ DPut H a i v H' ∧ Q H'
theorem set_put {X : Cx} (hu : X.A.units + 1 < cLine) : PSet X rPut := by
  intro pins s σ H o i v ov iv u Q I ro ri rv h
  rcases h with h | h
  · exact set_list pins s σ H o i v ov iv u Q I ro ri rv h
  · obtain ⟨a, H', eo, g, q⟩ := h
    subst eo
    cases (show ov = Value.ref a from ro)
    exact d_setItem hu I g ri rv fun s' I' => ⟨H', I', q⟩
theorem put_ok {K : PySem.W.Frag} {w : World} {H H2 : Hp} {a : Addr} {o o' : SObj} {i d : D} {iv v : V} {Q : Hp → Prop} (so : SObjR K w H [a] o) (e : putO o i d = some o') (ri : Rep K w iv i) (rv : Rep K w v d) (h : ∀ u, SObjR K w (upd H a u) [a] o' → Q (upd H a u)) : rPut (.ref a) iv v H Q := by
  cases o with
  | lst ds =>
    obtain ⟨vs, h1, h2⟩ := so.isL
    cases i with
    | int k =>
      cases ri
      have e : ((ixN ds.length k).map fun j => SObj.lst (ds.set j d)) = some o' := e
      cases e1 : ixN ds.length k with
      | none => rw [e1] at e; cases e
      | some j =>
        rw [e1] at e
        cases e
        exact .inl ⟨a, vs, k, j, rfl, rfl, h1, by rw [h2.length]; exact e1, h _ ⟨a, _, rfl, upd_same, h2.set j rv⟩⟩
    | _ => cases e
  | dic ks ds =>
    obtain ⟨kvs, h1, rfl, h3⟩ := so.isD
    have go : ∀ q, (if (kvs.map (·.1)).length < sizeLine then some (SObj.dic (putKs (kvs.map (·.1)) q) (putDs (kvs.map (·.1)) ds q d)) else none) = some o' → iv = kV q → rPut (.ref a) iv v H Q := fun q e hq => by
      by_cases hl : (kvs.map (·.1)).length < sizeLine
      · rw [if_pos hl] at e
        cases e
        exact .inr ⟨a, _, rfl, by rw [hq]; exact .k h1 (by rw [List.length_map] at hl; exact hl), h _ ⟨a, putK kvs q v, rfl, upd_same, put_keys kvs, put_rep h3 rv⟩⟩
      · rw [if_neg hl] at e; cases e
    cases i with
    | int k => cases ri; exact go (.inl k) e rfl
    | str k => cases ri; exact go (.inr k) e rfl
    | _ => cases e
def tgSub (mo mi : Mi D) : D → Mi Unit := fun d => mBind mo fun od => mBind mi fun id z => match od with
  | .ref n => (match (z.s[n]?).bind fun o => putO o id d with
    | some o' => .ok () ⟨z.e, z.s.set n o'⟩
    | none => .no)
  | _ => .no
theorem sg2_sub {o i : Expr} {mo mi : Mi D} (ho : SE F o mo) (hi : SE F i mi) (hc : F.cal = true := by rfl) (ha : ∀ env v, assign (.Subscript o i pos) env v = (do
      let ov ← holding [v] (eval o env)
      let iv ← holding [v, ov] (eval i env)
      standAt pos
      holding [v, ov, iv] (setItem ov iv v)
      release [v, ov, iv] []) := by intro _ _; rfl) : SG2 F (.Subscript o i pos) (tgSub mo mi) := by
  obtain ⟨to, o1, o2⟩ := ho.ex
  obtain ⟨ti, i1, i2⟩ := hi.ex
  refine ⟨_, fun X hX => pg_sub (o1 X hX) (i1 X hX) (set_put (by have := hu_of (F.room X hX hc); omega)) (ha X.env), fun fr w σ H z fp v d Q R r q _ => ?_⟩
  refine o2 fr w σ H z fp _ R ((EnsT.cut q).imp fun od w1 H1 z1 fp1 R1 l1 q ov rov => ?_)
  refine i2 fr w1 σ H1 z1 fp1 _ R1 ((EnsT.cut q.2.2).imp fun id w2 H2 z2 fp2 R2 l2 q iv riv => ?_)
  have q := q.2.2
  cases od with
  | ref n =>
    cases e1 : z2.s[n]? with
    | none => simp only [e1] at q; exact q.elim
    | some o =>
      obtain ⟨a, rfl, hm, so⟩ := R2.shared e1 (rov.mono l2)
      cases e2 : putO o id d with
      | none => simp only [e1, Option.bind_some, e2] at q; exact q.elim
      | some o' =>
        simp only [e1, Option.bind_some, e2] at q
        exact put_ok (H2 := H2) so e2 riv (r.mono (World.le_trans l1 l2)) fun u so' => q σ w2 _ fp2 (R2.swrite hm so') (World.le_refl w2)
  | _ => exact q.elim
/-- .. of a thing that the name owns -/
def putB (b : B) (i d : D) : Option B := match b with
  | .ml ds => (putO (.lst ds) i d).bind fun o => match o with
    | .lst ds => some (.ml ds)
    | _ => none
  | .md ks ds => (putO (.dic ks ds) i d).bind fun o => match o with
    | .dic ks ds => some (.md ks ds)
    | _ => none
  | _ => none
def tgSubP (j : Nat) (mi : Mi D) : D → Mi Unit := fun d z => match (z.e[j]?).bind shB with
  | some _ => mBind mi (fun id z1 => match (z1.e[j]?).bind fun b => putB b id d with
    | some b' => .ok () ⟨z1.e.set j b', z1.s⟩
    | none => .no) z
  | none => .no
theorem slot_sh {K : PySem.W.Frag} {fr : Fr} {w : World} {σ : St} {H : Hp} {z : Z} {fp : Nat → List Addr} {i : Nat} {b : B} {o : SObj} (R : Rel K fr w σ H z fp) (e : z.e[i]? = some b) (h : shB b = some o) : ∃ a, slot σ i = some (.ref a) ∧ fp i = [a] ∧ SObjR K w H [a] o := by
  have s0 := R.slots i b e
  cases b with
  | ml ds => cases h; obtain ⟨a, vs, e1, e2, e3, e4⟩ := s0; exact ⟨a, e1, e2, a, vs, rfl, e3, e4⟩
  | md ks ds => cases h; obtain ⟨a, kvs, e1, e2, e3, e4, e5⟩ := s0; exact ⟨a, e1, e2, a, kvs, rfl, e3, e4, e5⟩
  | _ => cases h
theorem putB_ok {b b' : B} {i d : D} (h : putB b i d = some b') : ∃ o o', shB b = some o ∧ putO o i d = some o' ∧ shB b' = some o' := by
  cases b with
  | ml ds =>
    have h : ((putO (.lst ds) i d).bind fun o => match o with
      | .lst ds => some (B.ml ds)
      | _ => none) = some b' := h
    cases e : putO (.lst ds) i d with
    | none => rw [e] at h; cases h
    | some o =>
      rw [e] at h
      cases o with
      | lst ds' => cases h; exact ⟨_, _, rfl, e, rfl⟩
      | dic _ _ => cases h
  | md ks ds =>
    have h : ((putO (.dic ks ds) i d).bind fun o => match o with
      | .dic ks ds => some (B.md ks ds)
      | _ => none) = some b' := h
    cases e : putO (.dic ks ds) i d with
    | none => rw [e] at h; cases h
    | some o =>
      rw [e] at h
      cases o with
      | lst ds' => cases h
      | dic _ _ => cases h; exact ⟨_, _, rfl, e, rfl⟩
  | _ => cases h
theorem SObjR.slotR {K : PySem.W.Frag} {w : World} {H : Hp} {a : Addr} {b : B} {o : SObj} (h : shB b = some o) (s : SObjR K w H [a] o) : SlotR K w H (some (.ref a)) b [a] := by
  cases b with
  | ml ds => cases h; obtain ⟨vs, h1, h2⟩ := s.isL; exact ⟨a, vs, rfl, rfl, h1, h2⟩
  | md ks ds => cases h; obtain ⟨kvs, h1, h2, h3⟩ := s.isD; exact ⟨a, kvs, rfl, rfl, h1, h2, h3⟩
  | _ => cases h
theorem sg2_subP (j : Nat) {i : Expr} {mi : Mi D} (hi : SE F i mi) (hc : F.cal = true := by rfl) (hN : F.N[j]? = some x := by rfl) (hv : Vis F.sc x := by first | exact Or.inl rfl | exact Or.inr (Or.inl rfl) | exact Or.inr (Or.inr rfl)) (hd : (x == ("__debug__" : Str)) = false := by decide) (hcd : (x == ("__classdict__" : Str)) = false := by decide) (ha : ∀ env v, assign (.Subscript (.Name x p) i pos) env v = (do
      let ov ← holding [v] (eval (.Name x p) env)
      let iv ← holding [v, ov] (eval i env)
      standAt pos
      holding [v, ov, iv] (setItem ov iv v)
      release [v, ov, iv] []) := by intro _ _; rfl) : SG2 F (.Subscript (.Name x p) i pos) (tgSubP j mi) := by
  obtain ⟨ti, i1, i2⟩ := hi.ex
  refine ⟨_, fun X hX => pg_sub (pe_name hX j hN hv hd hcd) (i1 X hX) (set_put (by have := hu_of (F.room X hX hc); omega)) (ha X.env), fun fr w σ H z fp v d Q R r q _ => ?_⟩
  unfold tgSubP at q
  cases e0 : z.e[j]? with
  | none => simp only [e0, Option.bind_none] at q; exact q.elim
  | some b0 =>
    cases e00 : shB b0 with
    | none => simp only [e0, Option.bind_some, e00] at q; exact q.elim
    | some o0 =>
      simp only [e0, Option.bind_some, e00] at q
      obtain ⟨a, s0, _, _⟩ := slot_sh R e0 e00
      refine ⟨.ref a, slot_get s0, ?_⟩
      refine i2 fr w σ H z fp _ R ((EnsT.cut q).imp fun id w2 H2 z2 fp2 R2 l2 q iv riv => ?_)
      have q := q.2.2
      cases e1 : z2.e[j]? with
      | none => simp only [e1, Option.bind_none] at q; exact q.elim
      | some b1 =>
        cases e2 : putB b1 id d with
        | none => simp only [e1, Option.bind_some, e2] at q; exact q.elim
        | some b2 =>
          simp only [e1, Option.bind_some, e2] at q
          obtain ⟨o, o', p1, p2, p3⟩ := putB_ok e2
          obtain ⟨a', s1, f1, so⟩ := slot_sh R2 e1 p1
          rw [s0] at s1
          cases s1
          exact put_ok (H2 := H2) so p2 riv (r.mono l2) fun u so' => q σ w2 _ fp2 (R2.write (by rw [f1]; simp) (List.getElem?_eq_some_iff.mp e1).1 (by rw [s0, f1]; exact so'.slotR p3)) (World.le_refl w2)
def mAsg2 (m : Mi D) (t : D → Mi Unit) : Mi Fl := mBind m fun d z => match t d z with
  | .ok _ z' => .ok .nx z'
  | .ex c z' => .ex c z'
  | .no => .no
theorem ss_asg2 {m : Mi D} {t : D → Mi Unit} (h : SE F e m) (k : SG2 F tg t) (hs : ∀ env : Env, env.scope = F.sc → swapsWithSole [tg] e pos.line env = pure false := by intro _ _; rfl) (hw : ∀ env : Env, env.scope = F.sc → swappedStores [tg] e env = pure none := by intro _ _; rfl)
    (h1 : ∀ env, (assignEach [tg] env).map (·.2) = [assign tg env] := by intro _; rfl) : SS F (.Assign [tg] e pos) (mAsg2 m t) := by
  obtain ⟨te, a1, a2⟩ := h.ex
  obtain ⟨g, b1, b2⟩ := k.ex
  refine ⟨_, fun X hX => ps_asg (a1 X hX) (b1 X hX) (hs X.env (F.eqs X hX).2.2.2.2.2.2.1) (hw X.env (F.eqs X hX).2.2.2.2.2.2.1) (h1 X.env), fun fr w σ H z fp E R q => ?_⟩
  refine a2 fr w σ H z fp _ R (q.cut.imp fun d w1 H1 z1 fp1 R1 l1 k v r => ?_)
  have k := k.2.2
  refine b2 fr w1 σ H1 z1 fp1 v d _ R1 r ?_ fun _ _ _ h => h
  cases e1 : t d z1 with
  | ok a z' => simp only [e1] at k; exact fun σ' w' H' fp' R' l' => k σ' w' H' fp' R' l'
  | ex c z' => simp only [e1] at k; exact fun σ' w' H' fp' R' l' => k σ' w' H' fp' R' l'
  | no => simp only [e1] at k; exact k
/-! ## {k: v, ..} -/
def mPairs : List (Mi D × Mi D) → Mi (List D × List D)
  | [] => mPure ([], [])
  | (mk, mv) :: r => mBind mk fun k => mBind mv fun v => mBind (mPairs r) fun q => mPure (k :: q.1, v :: q.2)
def TPD (F : Fam) (trs : List (TE × TE)) (m : Mi (List D × List D)) : Prop := ∀ fr w σ H z fp (Q : List (V × V) → Hp → Prop), Rel F.K fr w σ H z fp → Ens F fr w σ (m z) (fun q w' H' _ _ => ∀ ps : List (V × V), RepL F.K w' (ps.map (·.1)) q.1 → RepL F.K w' (ps.map (·.2)) q.2 → Q ps H') → tPairs trs σ H Q
structure SPp (F : Fam) (pos : Pos) (ks : List (Option Expr)) (vs : List Expr) (m : Mi (List D × List D)) : Prop where
  ex : ∃ trs, (∀ X, F.C X → PPs X pos ks vs trs) ∧ TPD F trs m
theorem spp_nil : SPp F pos [] [] (mPairs []) := ⟨[], fun _ _ => pps_nil, fun fr w σ H z fp Q R q => q w H fp R (World.le_refl w) [] .nil .nil⟩
theorem spp_cons {ek ev : Expr} {ks : List (Option Expr)} {vs : List Expr} {mk mv : Mi D} {r : List (Mi D × Mi D)} (hk : SE F ek mk) (hv : SE F ev mv) (h : SPp F pos ks vs (mPairs r)) : SPp F pos (some ek :: ks) (ev :: vs) (mPairs ((mk, mv) :: r)) := by
  obtain ⟨tk, k1, k2⟩ := hk.ex
  obtain ⟨tv, v1, v2⟩ := hv.ex
  obtain ⟨trs, r1, r2⟩ := h.ex
  refine ⟨(tk, tv) :: trs, fun X hX => pps_cons (k1 X hX) (v1 X hX) (r1 X hX), fun fr w σ H z fp Q R q => ?_⟩
  refine k2 fr w σ H z fp _ R ((Ens.cut q).imp fun k w1 H1 z1 fp1 R1 l1 q x rx => ?_)
  refine v2 fr w1 σ H1 z1 fp1 _ R1 ((Ens.cut q.2.2).imp fun v w2 H2 z2 fp2 R2 l2 q y ry => ?_)
  refine r2 fr w2 σ H2 z2 fp2 _ R2 ((Ens.cut q.2.2).imp fun kv w3 H3 z3 fp3 R3 l3 q ps h1 h2 => ?_)
  exact q.2.2 w3 H3 fp3 R3 (World.le_refl w3) ((x, y) :: ps) (.cons (rx.mono (World.le_trans l2 l3)) h1) (.cons (ry.mono l3) h2)
def toKeys : List D → Option (List Key)
  | [] => some []
  | d :: ds => (toKey d).bind fun k => (toKeys ds).map (k :: ·)
def mergeD (acc : List Key × List D) : List Key → List D → List Key × List D
  | k :: ks, d :: ds => mergeD (putKs acc.1 k, putDs acc.1 acc.2 k d) ks ds
  | _, _ => acc
theorem toKeys_ps {K : PySem.W.Frag} {w : World} : ∀ {ps : List (V × V)} {kd : List D} {ks : List Key}, RepL K w (ps.map (·.1)) kd → toKeys kd = some ks → ∃ kvs : List (Key × V), ps = kvs.map (fun kv => (kV kv.1, kv.2)) ∧ kvs.map (·.1) = ks ∧ ps.map (·.2) = kvs.map (·.2)
  | [], _, _, h, e => by
    cases h
    cases e
    exact ⟨[], rfl, rfl, rfl⟩
  | (x, y) :: ps, _, _, h, e => by
    cases h with
    | cons h1 h2 =>
      rename_i d ds
      have e : ((toKey d).bind fun k => (toKeys ds).map (k :: ·)) = some _ := e
      cases e1 : toKey d with
      | none => rw [e1] at e; cases e
      | some k =>
        rw [e1] at e
        cases e2 : toKeys ds with
        | none => simp only [Option.bind_some, e2] at e; cases e
        | some ks =>
          simp only [Option.bind_some, e2] at e
          cases e
          obtain ⟨kvs, rfl, h3, h4⟩ := toKeys_ps h2 e2
          have hx : x = kV k := toKey_kV (H := fun _ => none) (.of h1) e1
          subst hx
          exact ⟨(k, y) :: kvs, rfl, by rw [List.map_cons, h3], by rw [List.map_cons, h4, List.map_cons]⟩
theorem merge_rep {K : PySem.W.Frag} {w : World} : ∀ {more kvs : List (Key × V)} {ds0 ds : List D}, RepL K w (kvs.map (·.2)) ds0 → RepL K w (more.map (·.2)) ds →
    (mergeK kvs more).map (·.1) = (mergeD (kvs.map (·.1), ds0) (more.map (·.1)) ds).1 ∧ RepL K w ((mergeK kvs more).map (·.2)) (mergeD (kvs.map (·.1), ds0) (more.map (·.1)) ds).2
  | [], kvs, ds0, ds, h, h' => by
    cases h'
    exact ⟨rfl, h⟩
  | (k, v) :: more, kvs, ds0, ds, h, h' => by
    cases h' with
    | cons h1 h2 =>
      rename_i d ds'
      have := merge_rep (more := more) (kvs := putK kvs k v) (put_rep (q := k) h h1) h2
      rw [put_keys] at this
      exact this
def mDisp (r : List (Mi D × Mi D)) : Mi B := mBind (mPairs r) fun q => match toKeys q.1 with
  | some ks => if q.1.length ≤ 15 then mPure (.md (mergeD ([], []) ks q.2).1 (mergeD ([], []) ks q.2).2) else mNo
  | none => mNo
theorem sb_disp {ks : List (Option Expr)} {vs : List Expr} {r : List (Mi D × Mi D)} (h : SPp F pos ks vs (mPairs r)) (hall : ks.all (·.isSome) = true := by rfl) (hl : ks.length = vs.length := by rfl) (h0 : ks ≠ [] := by exact fun e => by cases e) (h15 : ks.length ≤ 15 := by decide) :
    SB F (.Dict ks vs pos) (mDisp r) := by
  obtain ⟨trs, r1, r2⟩ := h.ex
  refine ⟨_, fun X hX => pe_disp (r1 X hX) hall hl h0 h15, fun fr w σ H z fp Q R q p hp => ?_⟩
  have hl := R.len
  have R1 := R.newDict (kvs := []) (ds := []) hp .nil
  refine r2 _ w σ _ z _ _ (R1.front hl) ?_
  unfold mDisp mBind at q
  cases q1 : mPairs r z with
  | ex c z2 =>
    simp only [q1] at q
    intro w' H' fp' R' l'
    have R3 := R1.pop
    rw [pf_front R1] at R'
    exact q w' H' _ (R3.back R' R'.len (fun _ _ => ⟨rfl, rfl, rfl⟩) fun _ h => absurd trivial h) l'
  | no => simp only [q1] at q; exact q
  | ok kv z2 =>
    simp only [q1] at q
    intro w2 H2 fp2 R2 l2 ps h1 h2
    have hl2 : σ.length = z2.e.length := R2.len
    have npf : ¬ pfAt w (fun j => if j = z.e.length then [p] else (fp j)) (fun j => j < z.e.length) p := fun h => by
      have hn0 := R.new0 hp
      rcases h with h | ⟨j, hj, h⟩
      · obtain ⟨u, e⟩ := R.sh_there h; rw [hp] at e; cases e
      · have h : p ∈ (if j = z.e.length then [p] else fp j) := h
        rw [if_neg (by omega)] at h
        obtain ⟨u, e⟩ := R.slot_there h; rw [hp] at e; cases e
    have hD : H2 p = some (.dK []) := R2.frame p _ upd_same npf
    refine ⟨hD, ?_⟩
    cases e1 : toKeys kv.1 with
    | none => simp only [e1] at q; exact q.elim
    | some ks' =>
      simp only [e1] at q
      obtain ⟨kvs, e2, e3, e4⟩ := toKeys_ps h1 e1
      have q : EnsB F fr w σ ((if kv.1.length ≤ 15 then mPure (.md (mergeD ([], []) ks' kv.2).1 (mergeD ([], []) ks' kv.2).2) else mNo) z2) Q := q
      by_cases h15 : kv.1.length ≤ 15
      · rw [if_pos h15] at q
        have hk : kvs.length ≤ 15 := by
          have := h1.length
          rw [e2, List.length_map, List.length_map] at this
          omega
        refine ⟨kvs, e2, hk, ?_⟩
        have R4 : Rel F.K fr w2 (σ ++ [some (.ref p)]) H2 ⟨z2.e ++ [.md [] []], z2.s⟩ (fun j => if j < z.e.length then fp2 j else if j = z.e.length then [p] else fp j) := by
          refine R1.back R2 (by simp [hl2]) (fun j hj => ⟨?_, ?_, by rw [if_pos hj]⟩) fun j hj => ⟨?_, rfl, by rw [if_neg hj]⟩
          · show (z2.e ++ [B.md [] []])[j]? = z2.e[j]?
            rw [List.getElem?_append_left (by omega)]
          · unfold slot; rw [List.getElem?_append_left (by omega)]
          · show (z2.e ++ [B.md [] []])[j]? = (z.e ++ [B.md [] []])[j]?
            rw [List.getElem?_append_right (by omega), List.getElem?_append_right (by omega)]
            congr 1
            omega
        have m := merge_rep (more := kvs) (kvs := []) (ds0 := []) .nil (by rw [← e4]; exact h2)
        rw [e3] at m
        have R5 := R4.write (i := z.e.length) (a := p) (u := .dK (mergeK [] kvs)) (b' := .md (mergeD ([], []) ks' kv.2).1 (mergeD ([], []) ks' kv.2).2) (by rw [if_neg (Nat.lt_irrefl _), if_pos rfl]; simp) (by simp; omega) (by
          rw [if_neg (Nat.lt_irrefl _), if_pos rfl, ← hl, slot_app_last]
          exact ⟨p, _, rfl, rfl, upd_same, m.1, m.2⟩)
        have es : (z2.e ++ [B.md [] []]).set z.e.length (.md (mergeD ([], []) ks' kv.2).1 (mergeD ([], []) ks' kv.2).2) = z2.e ++ [.md (mergeD ([], []) ks' kv.2).1 (mergeD ([], []) ks' kv.2).2] := by
          rw [← hl, hl2, List.set_append_right _ _ (Nat.le_refl _), Nat.sub_self]
          rfl
        rw [show (⟨z2.e ++ [.md [] []], z2.s⟩ : Z).e = z2.e ++ [.md [] []] from rfl, es] at R5
        exact q _ w2 _ _ R5 l2
      · rw [if_neg h15] at q; exact q.elim
end
end M
namespace M
open PySem L2
open PyProof.Rows (envOfC)

/-! ## a subscript, an 'in': of rows or of dicts -/
theorem ix_dict {X : Cx} (hu : X.A.units + 1 < cLine) : IxR X rDGet := by
  intro value slice pins s σ H x y v u Q I rx ry h hs
  obtain ⟨a, r, rfl, g, q⟩ := h
  obtain rfl : v = Value.ref a := rx
  unfold PyProof.Rows.subscriptTail
  refine wpAny_bind ?_
  have hT := dict_typeIs I g
  rw [getitemInPython_of_ne hT.not_modules]
  refine wpAny_bind (wpAny_specialOf hT PySem.F.slot_dict_getitem.lookup ?_)
  have fin : wpAny (model X.prog X.w) X.A (subscripted slice false (.ref a) u) (fun r s₃ => wpAny (model X.prog X.w) X.A (letTemporaryGo value (.ref a) r >>= fun _ => pure r) (EP X pins σ Q) X.xe s₃) X.xe s := by
    rw [hs]
    exact wpAny_operating (wpAny_mono (d_getItem hu I g ry fun w' s3 I3 rw' => (⟨r, H, I3, rw', q⟩ : EP X pins σ Q w' s3)) (fun r s₃ h₃ => wpAny_bind (wpAny_letTemporaryGo (wpAny_pure h₃))) fun _ _ x => x)
  first
    | exact wpAny_pure (wpAny_bind fin)
    | exact wpAny_bind (wpAny_pure (wpAny_bind fin))
    | exact wpAny_bind fin
theorem op_din {X : Cx} (hu : X.A.units + 1 < cLine) : OpR X (compareOp .In) (rDIn id) := by
  intro pins s σ H x y v u Q I rx ry h
  obtain ⟨a, o, rfl, g, q⟩ := h
  obtain rfl : u = Value.ref a := ry
  exact d_in hu I g rx fun s3 I3 => ⟨.bl o.isSome, H, I3, rfl, q⟩
theorem op_dnotin {X : Cx} (hu : X.A.units + 1 < cLine) : OpR X (compareOp .NotIn) (rDIn not) := by
  intro pins s σ H x y v u Q I rx ry h
  obtain ⟨a, o, rfl, g, q⟩ := h
  obtain rfl : u = Value.ref a := ry
  exact d_notIn hu I g rx fun s3 I3 => ⟨.bl (!o.isSome), H, I3, rfl, q⟩
def gSubs (a b : D) : Option D := match a with
  | .dic ks ds => gDGet (.dic ks ds) b
  | _ => gIx a b
def gInA (f : Bool → Bool) (a b : D) : Option D := match b with
  | .dic ks ds => gDIn f a (.dic ks ds)
  | _ => gIn f a b
section
variable {F : Fam} {a b e e' : Expr} {pos : Pos} {m m' ma mb : Mi D} {x : Str} {p : Pos}
theorem opn_subs : OpN F (fun x y H Q => rIx F.K x y H Q ∨ rDGet x y H Q) gSubs := by
  intro fr w σ H z fp x y a b d Q R ra rb e q
  cases a with
  | dic ks ds => exact .inr (opn_dget fr w σ H z fp x y _ b d Q R ra rb e q)
  | _ => exact .inl (opn_ix fr w σ H z fp x y _ b d Q R ra rb e q)
theorem opn_inA {neg : Bool} {f : Bool → Bool} (hf : ∀ b, (if neg then !b else b) = f b) : OpN F (fun x y H Q => rIn F.K neg x y H Q ∨ rDIn f x y H Q) (gInA f) := by
  intro fr w σ H z fp x y a b d Q R ra rb e q
  cases b with
  | dic ks ds => exact .inr (opn_din f fr w σ H z fp x y a _ d Q R ra rb e q)
  | _ => exact .inl (opn_in_f hf fr w σ H z fp x y a _ d Q R ra rb e q)
theorem ixrA {X : Cx} (hX : F.C X) (hc : F.cal = true) : IxR X (fun x y H Q => rIx F.K x y H Q ∨ rDGet x y H Q) := (ixr hX).or (ix_dict (by have := hu_of (F.room X hX hc); omega))
theorem se_sub_ (ha : SE F a ma) (hb : SN F b mb) (hc : F.cal = true := by rfl) (hs : PlainIx b := by exact fun _ _ => rfl) : SE F (.Subscript a b pos) (mOp gSubs ma mb) := by
  obtain ⟨ta, a1, a2⟩ := ha.ex
  obtain ⟨tb, b1, b2⟩ := hb.ex
  exact ⟨_, fun X hX => pe_ix (ixrA hX hc) (a1 X hX) (b1 X hX) hs, ted_op opn_subs a2 b2⟩
theorem se_subV (ha : SE F a ma) (hb : SN F b mb) (hc : F.cal = true := by rfl) (hs : PlainIx b := by exact fun _ _ => rfl) : SE F (.Subscript a b pos) (mOpV gSubs ma mb) := by
  obtain ⟨ta, a1, a2⟩ := ha.ex
  obtain ⟨tb, b1, b2⟩ := hb.ex
  exact ⟨_, fun X hX => pe_ix (ixrA hX hc) (a1 X hX) (b1 X hX) hs, ted_opV opn_subs a2 b2⟩
theorem se_subP (i : Nat) (hb : SN F b mb) (hc : F.cal = true := by rfl) (hs : PlainIx b := by exact fun _ _ => rfl) (hN : F.N[i]? = some x := by rfl) (hv : Vis F.sc x := by first | exact Or.inl rfl | exact Or.inr (Or.inl rfl) | exact Or.inr (Or.inr rfl)) (hd : (x == ("__debug__" : Str)) = false := by decide) (hcd : (x == ("__classdict__" : Str)) = false := by decide) :
    SE F (.Subscript (.Name x p) b pos) (mOpP gSubs i mb) := by
  obtain ⟨tb, b1, b2⟩ := hb.ex
  exact ⟨_, fun X hX => pe_ix (ixrA hX hc) (pe_name hX i hN hv hd hcd) (b1 X hX) hs, ted_opP i opn_subs b2⟩
theorem op_inA {X : Cx} (hX : F.C X) (hc : F.cal = true) : OpR X (compareOp .In) (fun x y H Q => rIn F.K false x y H Q ∨ rDIn id x y H Q) := by
  have h := op_in_seq (X := X)
  rw [F_K hX] at h
  exact opr_or h (op_din (by have := hu_of (F.room X hX hc); omega))
theorem op_ninA {X : Cx} (hX : F.C X) (hc : F.cal = true) : OpR X (compareOp .NotIn) (fun x y H Q => rIn F.K true x y H Q ∨ rDIn not x y H Q) := by
  have h := op_notIn_seq (X := X)
  rw [F_K hX] at h
  exact opr_or h (op_dnotin (by have := hu_of (F.room X hX hc); omega))
theorem se_inA (ha : SE F a ma) (hb : SN F b mb) (hc : F.cal = true := by rfl) (hm : behindInMarks .In b = false := by with_unfolding_all rfl) : SE F (.Compare a [.In] [b] pos) (mOp (gInA id) ma mb) := se_cmp (fun X hX => op_inA hX hc) (opn_inA fun _ => rfl) ha hb hm
theorem se_ninA (ha : SE F a ma) (hb : SN F b mb) (hc : F.cal = true := by rfl) (hm : behindInMarks .NotIn b = false := by with_unfolding_all rfl) : SE F (.Compare a [.NotIn] [b] pos) (mOp (gInA not) ma mb) := se_cmp (fun X hX => op_ninA hX hc) (opn_inA fun _ => rfl) ha hb hm
end
end M
namespace M
open PySem L2
open PyProof.Rows (envOfC)
section
variable {F : Fam} {e e' : Expr} {pos : Pos} {m m' : Mi D} {x : Str} {p : Pos}
theorem se_globI {i : Int} (hm : ∃ t, F.mg x = some (.int i t)) (hg : F.sc.names.lookup x = some .globalImplicit := by rfl) (hdb : (x == ("__debug__" : Str)) = false := by decide) : SE F (.Name x pos) (mPure (.int i)) := by
  obtain ⟨t, h⟩ := hm
  exact se_glob hg h (v := .int i) ⟨t, rfl⟩ (fun _ => .int i) hdb
theorem ss_daugAdd (i : Nat) {ev ek : Expr} {mv mk : Mi D} {p2 : Pos} (hk : SE F ek mk) (hv' : SE F ev mv) (hc : F.cal = true := by rfl) (hN : F.N[i]? = some x := by rfl) (hv : Vis F.sc x := by first | exact Or.inl rfl | exact Or.inr (Or.inl rfl) | exact Or.inr (Or.inr rfl)) (hd : (x == ("__debug__" : Str)) = false := by decide) (hcd : (x == ("__classdict__" : Str)) = false := by decide)
    (ha : ∀ ov iv new, augStore ek ov iv new = (do holding [new, ov, iv] (setItem ov iv new); release [new, ov, iv] []; pure .next) := by intro _ _ _; rfl) : SS F (.AugAssign (.Subscript (.Name x p) ek p2) .Add ev pos) (mDAug (fun a b => a + b) i mk mv) :=
  ss_daug i (fun _ _ => iop_add) hk hv' hc hN hv hd hcd ha
theorem ss_daugSub (i : Nat) {ev ek : Expr} {mv mk : Mi D} {p2 : Pos} (hk : SE F ek mk) (hv' : SE F ev mv) (hc : F.cal = true := by rfl) (hN : F.N[i]? = some x := by rfl) (hv : Vis F.sc x := by first | exact Or.inl rfl | exact Or.inr (Or.inl rfl) | exact Or.inr (Or.inr rfl)) (hd : (x == ("__debug__" : Str)) = false := by decide) (hcd : (x == ("__classdict__" : Str)) = false := by decide)
    (ha : ∀ ov iv new, augStore ek ov iv new = (do holding [new, ov, iv] (setItem ov iv new); release [new, ov, iv] []; pure .next) := by intro _ _ _; rfl) : SS F (.AugAssign (.Subscript (.Name x p) ek p2) .Sub ev pos) (mDAug (fun a b => a - b) i mk mv) :=
  ss_daug i (fun _ _ => iop_sub) hk hv' hc hN hv hd hcd ha
theorem exc_ref {x : Str} (G : Exc F.bs x) : ∃ C, F.mg x = some (.ref C) := by
  obtain ⟨C, h, _⟩ := G.ex
  exact ⟨C, h⟩
theorem exm_cons {K : PySem.W.Frag} {mg : Str → Option Value} {y : Value} {b : Bool} {c : Str} {cs : List Str} (h : PySem.W.exmOne K ((mg c).getD .none) y = some b) (r : ∀ c ∈ cs, PySem.W.exmOne K ((mg c).getD .none) y = some b) : ∀ d ∈ c :: cs, PySem.W.exmOne K ((mg d).getD .none) y = some b := by
  intro d hd
  rcases List.mem_cons.mp hd with rfl | hd
  · exact h
  · exact r d hd
theorem rep_rg {K : PySem.W.Frag} {w : World} {a : Int} : ∀ {n : Nat} (l : List Nat), RepL K w (l.map fun (i : Nat) => V.int (a + (i : Nat))) (l.map fun (k : Nat) => D.int (a + (k : Int)))
  | _, [] => .nil
  | n, i :: l => .cons (.int _) (rep_rg (n := n) l)
def mListR1 (m : Mi D) : Mi B := mBind m fun d => match d with
  | .int j => if -(2 ^ 62) ≤ j ∧ j ≤ 16777216 then mPure (.ml (upto 0 j.toNat)) else mNo
  | _ => mNo
theorem sb_listR1 {p2 pos2 : Pos} (h : SE F e m) (hm : F.mg ("list" : Str) = none) (hm2 : F.mg ("range" : Str) = none) (hc : F.cal = true := by rfl) (hg : F.sc.names.lookup ("list" : Str) = some .globalImplicit := by rfl) (hg2 : F.sc.names.lookup ("range" : Str) = some .globalImplicit := by rfl)
    (hs : ∀ env, starEach [e] env = (false, eval e env) :: starEach [] env := by intro _; rfl) (hs2 : ∀ env, starEach [.Call (.Name ("range" : Str) p2) [e] [] pos2] env = (false, eval (.Call (.Name ("range" : Str) p2) [e] [] pos2) env) :: starEach [] env := by intro _; rfl) :
    SB F (.Call (.Name ("list" : Str) p) [.Call (.Name ("range" : Str) p2) [e] [] pos2] [] pos) (mListR1 m) := by
  obtain ⟨te, h1, h2⟩ := h.ex
  refine ⟨tLstRg (tRg1 te), fun X hX => ?_, fun fr w σ H z fp Q R q => ?_⟩
  · obtain ⟨e1, e2, e3, e4, e5, e6, e7, e8⟩ := F.eqs X hX
    exact pe_listRg (F.calm X hX hc) (by show X.env.scope.names.lookup _ = _; rw [e7]; exact hg) (by rw [e4]; exact hm) (prg_1 (by show X.env.scope.names.lookup _ = _; rw [e7]; exact hg2) (by rw [e4]; exact hm2) (h1 X hX) (hs X.env)) (hs2 X.env)
  · refine h2 fr w σ H z fp _ R ((tbd_of q).imp fun d w1 H1 z1 fp1 R1 l1 k v r => ?_)
    have k := k.2.2
    cases d with
    | int j =>
      cases r
      have k : EnsB F fr w1 σ ((if -(2 ^ 62) ≤ j ∧ j ≤ 16777216 then mPure (.ml (upto 0 j.toNat)) else mNo) z1) Q := k
      by_cases hj : -(2 ^ 62) ≤ j ∧ j ≤ 16777216
      · rw [if_pos hj] at k
        refine ⟨j, rfl, ⟨by omega, by omega, hj.1, by omega, by omega⟩, fun q hq => k _ _ _ _ (R1.newList hq ?_) (World.le_refl _)⟩
        unfold rgV upto
        rw [Int.sub_zero]
        exact rep_rg (n := 0) _
      · rw [if_neg hj] at k
        exact k.elim
    | _ => exact k.elim
end
end M
namespace M
open PySem L2
open PyProof.Rows (envOfC)
/-! ## comparisons as tests -/
section
variable {F : Fam} {a b c : Expr} {pos : Pos} {m ma mb mc : Mi D} {r r' : R2} {g g' : D → D → Option D}
theorem ttd_test {te : TE} (h : TED F te m) : TTD F (tTest te) (mTru m) := fun fr w σ H z fp Q R q => by
  refine h fr w σ H z fp _ R (q.cut.imp fun d w1 H1 z1 fp1 R1 l1 k v1 r1 => ?_)
  have k := k.2.2
  cases d with
  | bl b => cases r1; exact ⟨b, rfl, k w1 H1 fp1 R1 (World.le_refl w1)⟩
  | _ => exact k.elim
theorem st_cmp {op : CmpOp} (ho : ∀ X, F.C X → OpR X (compareOp op) r) (hn : OpN F r g) (ha : SE F a ma) (hb : SN F b mb) (hm : behindInMarks op b = false) : ST F (.Compare a [op] [b] pos) (mTru (mOp g ma mb)) := by
  obtain ⟨ta, a1, a2⟩ := ha.ex
  obtain ⟨tb, b1, b2⟩ := hb.ex
  exact ⟨_, fun X hX => pt_cmpR (ho X hX) (a1 X hX) (b1 X hX) hm, ttd_test (ted_op hn a2 b2)⟩
theorem st_cmpV {op : CmpOp} (ho : ∀ X, F.C X → OpR X (compareOp op) r) (hn : OpN F r g) (ha : SE F a ma) (hb : SN F b mb) (hm : behindInMarks op b = false) : ST F (.Compare a [op] [b] pos) (mTru (mOpV g ma mb)) := by
  obtain ⟨ta, a1, a2⟩ := ha.ex
  obtain ⟨tb, b1, b2⟩ := hb.ex
  exact ⟨_, fun X hX => pt_cmpR (ho X hX) (a1 X hX) (b1 X hX) hm, ttd_test (ted_opV hn a2 b2)⟩
theorem st_cmpP (i : Nat) {op : CmpOp} {x : Str} {p : Pos} (ho : ∀ X, F.C X → OpR X (compareOp op) r) (hn : OpN F r g) (hb : SN F b mb) (hm : behindInMarks op b = false) (hN : F.N[i]? = some x) (hv : Vis F.sc x) (hd : (x == ("__debug__" : Str)) = false) (hcd : (x == ("__classdict__" : Str)) = false) :
    ST F (.Compare (.Name x p) [op] [b] pos) (mTru (mOpP g i mb)) := by
  obtain ⟨tb, b1, b2⟩ := hb.ex
  exact ⟨_, fun X hX => pt_cmpR (ho X hX) (pe_name hX i hN hv hd hcd) (b1 X hX) hm, ttd_test (ted_opP i hn b2)⟩
theorem st_chain {op op' : CmpOp} (ho : ∀ X, F.C X → OpR X (compareOp op) r) (hn : OpN F r g) (ho' : ∀ X, F.C X → OpR X (compareOp op') r') (hn' : OpN F r' g') (ha : SE F a ma) (hb : SE F b mb) (hc : SN F c mc)
    (hm : lastMarks [op, op'] [b, c] = false := by with_unfolding_all rfl) : ST F (.Compare a [op, op'] [b, c] pos) (mTru (mChain g g' ma mb mc)) := by
  obtain ⟨ta, a1, a2⟩ := ha.ex
  obtain ⟨tb, b1, b2⟩ := hb.ex
  obtain ⟨tc, c1, c2⟩ := hc.ex
  refine ⟨_, fun X hX => pt_chain (ho X hX) (ho' X hX) (a1 X hX) (b1 X hX) (c1 X hX) hm, ttd_test fun fr w σ H z fp Q R h => ?_⟩
  refine a2 fr w σ H z fp _ R (h.cut.imp fun x w1 H1 z1 fp1 R1 l1 k v1 r1 => ?_)
  refine b2 fr w1 σ H1 z1 fp1 _ R1 (k.2.2.cut.imp fun y w2 H2 z2 fp2 R2 l2 k2 v2 r2 => ?_)
  have k2 := k2.2.2
  cases e : g x y with
  | none => rw [e] at k2; exact k2.elim
  | some d =>
    rw [e] at k2
    have k2 : Ens F fr w2 σ ((match d with
      | .bl true => mBind mc fun v => mLift (g' y v)
      | .bl false => mPure (.bl false)
      | _ => mNo) z2) _ := k2
    refine hn fr w2 σ H2 z2 fp2 v1 v2 x y d _ R2 (.of (r1.mono l2)) (.of r2) e fun v3 w3 H3 fp3 R3 l3 r3 => ?_
    have k3 := k2.up l3
    cases d with
    | bl bb =>
      cases r3
      refine ⟨bb, rfl, ?_⟩
      cases bb with
      | true =>
        rw [if_pos rfl]
        refine c2 fr w3 σ H3 z2 fp3 _ R3 (k3.cut.imp fun v w4 H4 z4 fp4 R4 l4 k4 u r4 => ?_)
        have k4 := k4.2.2
        cases e' : g' y v with
        | none => rw [e'] at k4; exact k4.elim
        | some d' =>
          rw [e'] at k4
          exact hn' fr w4 σ H4 z4 fp4 _ u y v d' Q R4 (.of ((r2.mono l3).mono l4)) r4 e' fun v w' H' fp' R' l' rv => k4 w' H' fp' R' l' v rv
      | false =>
        rw [if_neg Bool.false_ne_true]
        exact k3 w3 H3 fp3 R3 (World.le_refl w3) _ (.bl false)
    | _ => exact k2.elim
theorem st_eq (ha : SE F a ma) (hb : SN F b mb) (hc : F.cal = true := by rfl) : ST F (.Compare a [.Eq] [b] pos) (mTru (mOp gEq ma mb)) := st_cmp (fun _ hX => opr_eq hX hc) opn_eq ha hb (nomark _)
theorem st_ne (ha : SE F a ma) (hb : SN F b mb) (hc : F.cal = true := by rfl) : ST F (.Compare a [.NotEq] [b] pos) (mTru (mOp gNe ma mb)) := st_cmp (fun _ hX => opr_ne hX hc) opn_ne ha hb (nomark _)
theorem st_eqP (i : Nat) {x : Str} {p : Pos} (hb : SN F b mb) (hc : F.cal = true := by rfl) (hN : F.N[i]? = some x := by rfl) (hv : Vis F.sc x := by first | exact Or.inl rfl | exact Or.inr (Or.inl rfl) | exact Or.inr (Or.inr rfl)) (hd : (x == ("__debug__" : Str)) = false := by decide) (hcd : (x == ("__classdict__" : Str)) = false := by decide) :
    ST F (.Compare (.Name x p) [.Eq] [b] pos) (mTru (mOpP gEq i mb)) := st_cmpP i (fun _ hX => opr_eq hX hc) opn_eq hb (nomark _) hN hv hd hcd
theorem st_neP (i : Nat) {x : Str} {p : Pos} (hb : SN F b mb) (hc : F.cal = true := by rfl) (hN : F.N[i]? = some x := by rfl) (hv : Vis F.sc x := by first | exact Or.inl rfl | exact Or.inr (Or.inl rfl) | exact Or.inr (Or.inr rfl)) (hd : (x == ("__debug__" : Str)) = false := by decide) (hcd : (x == ("__classdict__" : Str)) = false := by decide) :
    ST F (.Compare (.Name x p) [.NotEq] [b] pos) (mTru (mOpP gNe i mb)) := st_cmpP i (fun _ hX => opr_ne hX hc) opn_ne hb (nomark _) hN hv hd hcd
theorem st_lt (ha : SE F a ma) (hb : SN F b mb) : ST F (.Compare a [.Lt] [b] pos) (mTru (mOp gLt ma mb)) := st_cmp (fun _ _ => op_lt) (opn_I0 fun _ _ _ _ => .bl _) ha hb (nomark _)
theorem st_le (ha : SE F a ma) (hb : SN F b mb) : ST F (.Compare a [.LtE] [b] pos) (mTru (mOp gLe ma mb)) := st_cmp (fun _ _ => op_le) (opn_I0 fun _ _ _ _ => .bl _) ha hb (nomark _)
theorem st_gt (ha : SE F a ma) (hb : SN F b mb) : ST F (.Compare a [.Gt] [b] pos) (mTru (mOp gGt ma mb)) := st_cmp (fun _ _ => op_gt) (opn_I0 fun _ _ _ _ => .bl _) ha hb (nomark _)
theorem st_ge (ha : SE F a ma) (hb : SN F b mb) : ST F (.Compare a [.GtE] [b] pos) (mTru (mOp gGe ma mb)) := st_cmp (fun _ _ => op_ge) (opn_I0 fun _ _ _ _ => .bl _) ha hb (nomark _)
theorem st_is (ha : SE F a ma) (hb : SN F b mb) : ST F (.Compare a [.Is] [b] pos) (mTru (mOp (gIs id) ma mb)) := st_cmp (fun _ _ => op_isN) opn_is ha hb (nomark _)
theorem st_isnot (ha : SE F a ma) (hb : SN F b mb) : ST F (.Compare a [.IsNot] [b] pos) (mTru (mOp (gIs not) ma mb)) := st_cmp (fun _ _ => op_notN) opn_isnot ha hb (nomark _)
theorem st_in (ha : SE F a ma) (hb : SN F b mb) (hm : behindInMarks .In b = false := by with_unfolding_all rfl) : ST F (.Compare a [.In] [b] pos) (mTru (mOp (gIn id) ma mb)) := st_cmp (fun X hX => by
  have h := op_in_seq (X := X)
  rw [F_K hX] at h
  exact h) opn_in ha hb hm
theorem st_notIn (ha : SE F a ma) (hb : SN F b mb) (hm : behindInMarks .NotIn b = false := by with_unfolding_all rfl) : ST F (.Compare a [.NotIn] [b] pos) (mTru (mOp (gIn not) ma mb)) := st_cmp (fun X hX => by
  have h := op_notIn_seq (X := X)
  rw [F_K hX] at h
  exact h) opn_notIn ha hb hm
theorem st_sign (ha : SE F a ma) (hb : SN F b mb) (hm : behindInMarks .In b = false := by with_unfolding_all rfl) : ST F (.Compare a [.In] [b] pos) (mTru (mOp (gSign id) ma mb)) := st_cmp (fun X hX => op_in_sign) opn_sign ha hb hm
theorem st_notSign (ha : SE F a ma) (hb : SN F b mb) (hm : behindInMarks .NotIn b = false := by with_unfolding_all rfl) : ST F (.Compare a [.NotIn] [b] pos) (mTru (mOp (gSign not) ma mb)) := st_cmp (fun X hX => op_notIn_sign) opn_notSign ha hb hm
theorem st_lele (ha : SE F a ma) (hb : SE F b mb) (hc : SN F c mc) (hm : lastMarks [.LtE, .LtE] [b, c] = false := by with_unfolding_all rfl) : ST F (.Compare a [.LtE, .LtE] [b, c] pos) (mTru (mChain gLe gLe ma mb mc)) :=
  st_chain (fun _ _ => op_le) (opn_I0 fun _ _ _ _ => .bl _) (fun _ _ => op_le) (opn_I0 fun _ _ _ _ => .bl _) ha hb hc hm
theorem st_lelt (ha : SE F a ma) (hb : SE F b mb) (hc : SN F c mc) (hm : lastMarks [.LtE, .Lt] [b, c] = false := by with_unfolding_all rfl) : ST F (.Compare a [.LtE, .Lt] [b, c] pos) (mTru (mChain gLe gLt ma mb mc)) :=
  st_chain (fun _ _ => op_le) (opn_I0 fun _ _ _ _ => .bl _) (fun _ _ => op_lt) (opn_I0 fun _ _ _ _ => .bl _) ha hb hc hm
theorem st_inA (ha : SE F a ma) (hb : SN F b mb) (hc : F.cal = true := by rfl) (hm : behindInMarks .In b = false := by with_unfolding_all rfl) : ST F (.Compare a [.In] [b] pos) (mTru (mOp (gInA id) ma mb)) := st_cmp (fun X hX => op_inA hX hc) (opn_inA fun _ => rfl) ha hb hm
theorem st_ninA (ha : SE F a ma) (hb : SN F b mb) (hc : F.cal = true := by rfl) (hm : behindInMarks .NotIn b = false := by with_unfolding_all rfl) : ST F (.Compare a [.NotIn] [b] pos) (mTru (mOp (gInA not) ma mb)) := st_cmp (fun X hX => op_ninA hX hc) (opn_inA fun _ => rfl) ha hb hm
theorem st_eqV (ha : SE F a ma) (hb : SN F b mb) (hc : F.cal = true := by rfl) : ST F (.Compare a [.Eq] [b] pos) (mTru (mOpV gEq ma mb)) := st_cmpV (fun _ hX => opr_eq hX hc) opn_eq ha hb (nomark _)
theorem st_neV (ha : SE F a ma) (hb : SN F b mb) (hc : F.cal = true := by rfl) : ST F (.Compare a [.NotEq] [b] pos) (mTru (mOpV gNe ma mb)) := st_cmpV (fun _ hX => opr_ne hX hc) opn_ne ha hb (nomark _)
end
end M
namespace M
open PySem L2
open PyProof.Rows (envOfC)
/-! ## the law's answer -/
def Good (f : Mir) : Prop := ∀ ns : List Int, ns.length ≤ 63 → (∀ z ∈ ns, Builtin.Int.intBits z ≤ 1048576) → ∃ s, f [.fz (ns.map .int)] [] = .ok (.bl true) s
def spLaw (K : PySem.W.Frag) : Sp := fun vs H Q _ => ∃ (a : Addr) (ns : List Int), vs = [.ref a] ∧ SqL K H a (ns.map V.int) ∧ ns.length ≤ 63 ∧ (∀ z ∈ ns, Builtin.Int.intBits z ≤ 1048576) ∧ ∀ H', Q (.bl true) H'
theorem rep_ints {K : PySem.W.Frag} {w : World} : ∀ ns : List Int, RepL K w (ns.map V.int) (ns.map D.int)
  | [] => .nil
  | n :: ns => .cons (.int n) (rep_ints ns)
theorem law_sp {S : Bs} {f : Mir} (good : Good f) : ∀ vs H Q E, spLaw S.K vs H Q E → spOf S 1 f vs H Q E := by
  rintro vs H Q E ⟨a, ns, rfl, hS, hl, hb, q⟩
  obtain ⟨s, e⟩ := good ns hl hb
  refine ⟨rfl, ⟨H, []⟩, [.fz (ns.map .int)], [], ⟨fun _ _ h => h, rfl, fun n l o h => (by simp at h), List.nodup_nil, fun _ h => (by cases h)⟩, .cons (.fz hS (rep_ints ns)) .nil, ?_⟩
  rw [e]
  intro v w' H' _ r
  cases r
  exact q H'
theorem walk {l : PySem.W.OpenLaw} {q : Program} {loose : List Str} {XP : (Str → Option Value) → Heap → Prop} {YP : PySem.World → Heap → Prop} {d : DefRec} {K : Params → PySem.W.Frag} {f : Mir} {k : Nat} (hn : l.most = some 63) (hdf : d.params.defaults = []) (hr : Room k callerA)
    (hY : ∀ (w : PySem.World) (h : Heap), YP w h → (K w.params).In h) (good : Good f)
    (F : ∀ (w : PySem.World) (mg : Str → Option Value) (fa : Addr) (h : Heap), (K w.params).In h → h.Ns mainGlobals mg → mg d.name = some (.ref fa) →
      ∃ fd : FuncData, (∀ (s : Shared) (u : Value), BindsTo s fd ⟨[u], []⟩ [("script", u)]) ∧ ∀ base : Heap, (K w.params).In base → base.Ns mainGlobals mg → FnOk l.prog w (K w.params) mg base (L2.CX l.prog w) k fa fd ["script"] (spOf ⟨l.prog, w, K w.params, mg, base⟩ 1 f)) :
    PySem.W.WalkO q loose XP YP l.row.toRowW d [] (fun f vs => PySem.call f vs) :=
  L2.walk_ofB (n := 63) (k := k) (x := "script") (CX := fun w => L2.CX l.prog w) (sp := fun w => spLaw (K w.params)) hn (by decide) hdf hr hY
    (fun w mg fa h h1 h2 h3 => by
      obtain ⟨fd, g1, g2⟩ := F w mg fa h h1 h2 h3
      exact ⟨fd, g1, fun base b1 b2 => (g2 base b1 b2).imp (law_sp (S := ⟨l.prog, w, K w.params, mg, base⟩) good)⟩)
    (fun w H a ns hl hb _ hS => ⟨a, ns, rfl, hS, hl, hb, fun _ => rfl⟩) fun _ _ _ _ _ ⟨_, _, _, _, _, _, _, _, _, _, _, _, h⟩ => h
theorem exm_mk {K : PySem.W.Frag} {t : Value} {C : Addr} {b : Bool} (b1 : PySem.W.subIn K (.ref C) (.type "BaseException") = some true) (i1 : PySem.W.isClsIn K C = true) (t1 : PySem.W.typeIn K (.ref C) = some (.type "type")) (s1 : PySem.W.subIn K t (.ref C) = some b) : PySem.W.exmOne K t (.ref C) = some b := by
  unfold PySem.W.exmOne PySem.W.kitCls
  rw [b1, if_pos (by rfl)]
  show (if ((PySem.W.clsIn K C).isSome && PySem.W.typeIn K (.ref C) == some (.type "type")) = true then PySem.W.subIn K t (.ref C) else none) = some b
  have i1 : (PySem.W.clsIn K C).isSome = true := i1
  rw [i1, t1, if_pos (by rfl), s1]
theorem none_mem {α : Type} {P : α → Prop} : ∀ c ∈ ([] : List α), P c := fun _ h => absurd h List.not_mem_nil
end M
namespace M
open PySem L2
/-! ## runs of mirrors -/
theorem back_wipe {o n : List B} {vs : List Nat} (h : wipeE n vs = wipeE o vs) : backE o n vs = o := by
  have hl : o.length = n.length := by
    have := congrArg List.length h
    rw [wipeE_length, wipeE_length] at this
    exact this.symm
  refine List.ext_getElem? fun j => ?_
  rw [backE_get hl]
  by_cases hj : j ∈ vs
  · rw [if_pos hj]
  · rw [if_neg hj]
    have := congrArg (fun l => l[j]?) h
    simp only [wipeE_get] at this
    rw [if_neg fun k => hj k.1, if_neg fun k => hj k.1] at this
    exact this
theorem lcGo_ok {vs : List Nat} {t : D → Z → Option Z} {c : Mi Bool} {m : Mi D} {z0 : Z} (P : D → Bool) (g : D → D) : ∀ (ds acc : List D) (z : Z), z.wipe vs = z0 →
    (∀ d ∈ ds, ∃ z1, t d z0 = some z1 ∧ ∃ z2, c z1 = .ok (P d) z2 ∧ (P d = false → z2.wipe vs = z0) ∧ (P d = true → ∃ z3, m z2 = .ok (g d) z3 ∧ z3.wipe vs = z0)) → acc.length + ds.length ≤ sizeLine →
    ∃ z', mLcGo vs t c m ds acc z = .ok (acc ++ (ds.filter P).map g) z' ∧ z'.wipe vs = z0
  | [], acc, z, hz, _, _ => ⟨z, by simp [mLcGo, mPure], hz⟩
  | d :: ds, acc, z, hz, h, hl => by
    obtain ⟨z1, e1, z2, e2, h3, h4⟩ := h d (by simp)
    unfold mLcGo
    simp only [hz, e1, e2]
    cases hP : P d with
    | false =>
      obtain ⟨z', k1, k2⟩ := lcGo_ok P g ds acc z2 (h3 hP) (fun d' hd => h d' (List.mem_cons_of_mem _ hd)) (by simp at hl; omega)
      exact ⟨z', by simp only [k1]; rw [List.filter_cons_of_neg (by rw [hP]; exact Bool.false_ne_true)], k2⟩
    | true =>
      obtain ⟨z3, e3, e4⟩ := h4 hP
      simp only [e3]
      rw [if_pos (by simp at hl; omega)]
      obtain ⟨z', k1, k2⟩ := lcGo_ok P g ds (acc ++ [g d]) z3 e4 (fun d' hd => h d' (List.mem_cons_of_mem _ hd)) (by simp at hl ⊢; omega)
      exact ⟨z', by rw [k1, List.filter_cons_of_pos hP, List.map_cons, List.append_assoc]; rfl, k2⟩
theorem lc_ok {vs : List Nat} {mi : Mi (List D)} {t : D → Z → Option Z} {c : Mi Bool} {m : Mi D} {z zi : Z} {ds : List D} (P : D → Bool) (g : D → D) (hi : mi z = .ok ds zi) (hl : ds.length ≤ sizeLine)
    (h : ∀ d ∈ ds, ∃ z1, t d (zi.wipe vs) = some z1 ∧ ∃ z2, c z1 = .ok (P d) z2 ∧ (P d = false → z2.wipe vs = zi.wipe vs) ∧ (P d = true → ∃ z3, m z2 = .ok (g d) z3 ∧ z3.wipe vs = zi.wipe vs)) :
    mLc vs mi t c m z = .ok (.ml ((ds.filter P).map g)) zi := by
  obtain ⟨z', k1, k2⟩ := lcGo_ok P g ds [] zi rfl h (by simpa using hl)
  unfold mLc mBind
  simp only [hi, k1, List.nil_append]
  have e1 : wipeE z'.e vs = wipeE zi.e vs := congrArg Z.e k2
  have e2 : (z'.wipe vs).s = (zi.wipe vs).s := congrArg Z.s k2
  have e2 : z'.s = zi.s := e2
  rw [back_wipe e1, e2]
/-- all taken, one made of each -/
theorem lc_all {vs : List Nat} {mi : Mi (List D)} {t : D → Z → Option Z} {m : Mi D} {z zi : Z} {ds : List D} (g : D → D) (hi : mi z = .ok ds zi) (hl : ds.length ≤ sizeLine)
    (h : ∀ d ∈ ds, ∃ z1, t d (zi.wipe vs) = some z1 ∧ ∃ z3, m z1 = .ok (g d) z3 ∧ z3.wipe vs = zi.wipe vs) :
    mLc vs mi t (mPure true) m z = .ok (.ml (ds.map g)) zi := by
  have := lc_ok (c := mPure true) (fun _ => true) g hi hl fun d hd => by
    obtain ⟨z1, e1, z3, e3, e4⟩ := h d hd
    exact ⟨z1, e1, z1, rfl, fun q => (by cases q), fun _ => ⟨z3, e3, e4⟩⟩
  rw [this, List.filter_eq_self.mpr fun _ _ => rfl]
theorem for_inv {t : D → Z → Option Z} {b : Mi Fl} (I : Nat → Z → Prop) : ∀ (ds : List D) (i : Nat) (z : Z), (∀ j d, ds[j]? = some d → ∀ z, I (i + j) z → ∃ z1, t d z = some z1 ∧ ∃ f z2, b z1 = .ok f z2 ∧ (f = .nx ∨ f = .ct) ∧ I (i + j + 1) z2) → I i z →
    ∃ z', mForGo t b ds z = .ok .nx z' ∧ I (i + ds.length) z'
  | [], i, z, _, hz => ⟨z, rfl, hz⟩
  | d :: ds, i, z, h, hz => by
    obtain ⟨z1, e1, f, z2, e2, hf, h2⟩ := h 0 d rfl z hz
    obtain ⟨z', k1, k2⟩ := for_inv I ds (i + 1) z2 (fun j d' hd z hz => by
      have := h (j + 1) d' (by simpa using hd) z (by rw [show i + (j + 1) = i + 1 + j from by omega]; exact hz)
      rw [show i + (j + 1) + 1 = i + 1 + j + 1 from by omega] at this
      exact this) h2
    refine ⟨z', ?_, by rw [List.length_cons, show i + (ds.length + 1) = i + 1 + ds.length from by omega]; exact k2⟩
    unfold mForGo
    simp only [e1, e2]
    rcases hf with rfl | rfl <;> exact k1
theorem while_inv {c : Mi Bool} {b : Mi Fl} (I Fin : Z → Prop) (μ : Z → Nat) (h : ∀ z, I z → ∃ t z1, c z = .ok t z1 ∧ (t = false → Fin z1) ∧ (t = true → ∃ f z2, b z1 = .ok f z2 ∧ (f = .nx ∨ f = .ct) ∧ I z2 ∧ μ z2 < μ z)) :
    ∀ (n : Nat) (z : Z), I z → μ z < n → ∃ z', mWhile c b n z = .ok .nx z' ∧ Fin z'
  | 0, _, _, hn => by omega
  | n + 1, z, hz, hn => by
    obtain ⟨t, z1, e1, h1, h2⟩ := h z hz
    unfold mWhile mBind
    simp only [e1]
    cases t with
    | false => exact ⟨z1, by rw [if_neg Bool.false_ne_true]; rfl, h1 rfl⟩
    | true =>
      obtain ⟨f, z2, e2, hf, hI, hm⟩ := h2 rfl
      obtain ⟨z', k1, k2⟩ := while_inv I Fin μ h n z2 hI (by omega)
      refine ⟨z', ?_, k2⟩
      rw [if_pos rfl]
      simp only [e2]
      rcases hf with rfl | rfl <;> exact k1
/-! ## data -/
theorem atI_n {α : Type} (xs : List α) (k : Nat) : atI xs (k : Int) = xs[k]? := by
  unfold atI ixN
  rw [if_pos (by omega)]
  by_cases h : k < xs.length
  · rw [if_pos (by omega)]
    show xs[(k : Int).toNat]? = _
    rw [Int.toNat_natCast]
  · rw [if_neg (by omega), List.getElem?_eq_none (by omega)]
    rfl
theorem ixN_n {n k : Nat} (h : k < n) : ixN n (k : Int) = some k := by
  unfold ixN
  rw [if_pos (by omega), if_pos (by omega), Int.toNat_natCast]
theorem upto0 (n : Nat) : upto 0 n = (List.range n).map fun (k : Nat) => D.int (k : Int) := by
  unfold upto
  refine List.map_congr_left fun k _ => ?_
  rw [Int.zero_add]
theorem shaped_int (i : Int) : SeqAt.shaped (.int i) = true := rfl
theorem gEq_int (a b : Int) : gEq (.int a) (.int b) = some (.bl (decide (a = b))) := by
  show (if SeqAt.shaped (.int a) = true ∧ SeqAt.shaped (.int b) = true then some (D.bl (id (PyData.eqv (.int a) (.int b)))) else none) = _
  rw [if_pos ⟨rfl, rfl⟩]
  rfl
theorem gNe_int (a b : Int) : gNe (.int a) (.int b) = some (.bl (decide (a ≠ b))) := by
  show (if SeqAt.shaped (.int a) = true ∧ SeqAt.shaped (.int b) = true then some (D.bl (not (PyData.eqv (.int a) (.int b)))) else none) = _
  rw [if_pos ⟨rfl, rfl⟩]
  show some (D.bl (!(a == b))) = _
  by_cases h : a = b <;> simp [h]
end M
namespace M
open PySem L2
theorem toPs_ints : ∀ xs : List Int, toPs (xs.map .int) = some (xs.map .int)
  | [] => rfl
  | x :: xs => by
    rw [List.map_cons]
    unfold toPs
    rw [toPs_ints xs]
    rfl
theorem canLay_ints : ∀ xs : List Int, PyData.canLayAll0 (xs.map PyData.int) = true
  | [] => by simp [PyData.canLayAll0]
  | x :: xs => by simp [PyData.canLayAll0, PyData.canLay0, canLay_ints xs]
theorem depth_ints : ∀ xs : List Int, PyData.depthAll (xs.map PyData.int) = 0
  | [] => by simp [PyData.depthAll]
  | x :: xs => by simp [PyData.depthAll, PyData.depth, depth_ints xs]
theorem eqv_ints : ∀ xs ys : List Int, PyData.eqvAll (xs.map .int) (ys.map .int) = decide (xs = ys)
  | [], [] => by simp [PyData.eqvAll]
  | [], y :: ys => by simp [PyData.eqvAll]
  | x :: xs, [] => by simp [PyData.eqvAll]
  | x :: xs, y :: ys => by
    rw [List.map_cons, List.map_cons, PyData.eqvAll, eqv_ints xs ys, PyData.eqv]
    by_cases h : x = y <;> by_cases h2 : xs = ys <;> simp [h, h2]
theorem shaped_tup (xs : List Int) : SeqAt.shaped (.tuple (xs.map .int)) = true := by
  unfold SeqAt.shaped PyData.canLay0 PyData.depth
  rw [canLay_ints, depth_ints]
  rfl
theorem shaped_lst (xs : List Int) : SeqAt.shaped (.list (xs.map .int)) = true := by
  unfold SeqAt.shaped PyData.canLay0 PyData.depth
  rw [canLay_ints, depth_ints]
  rfl
theorem gEqv_lst (f : Bool → Bool) (xs ys : List Int) : gEqv f (.lst (xs.map .int)) (.lst (ys.map .int)) = some (.bl (f (decide (xs = ys)))) := by
  unfold gEqv toP
  rw [toPs_ints, toPs_ints]
  show (if SeqAt.shaped (.list (xs.map .int)) = true ∧ SeqAt.shaped (.list (ys.map .int)) = true then some (D.bl (f (PyData.eqv (.list (xs.map .int)) (.list (ys.map .int))))) else none) = _
  rw [if_pos ⟨shaped_lst xs, shaped_lst ys⟩, PyData.eqv, eqv_ints]
theorem gEqv_tup (f : Bool → Bool) (xs ys : List Int) : gEqv f (.tup (xs.map .int)) (.tup (ys.map .int)) = some (.bl (f (decide (xs = ys)))) := by
  unfold gEqv toP
  rw [toPs_ints, toPs_ints]
  show (if SeqAt.shaped (.tuple (xs.map .int)) = true ∧ SeqAt.shaped (.tuple (ys.map .int)) = true then some (D.bl (f (PyData.eqv (.tuple (xs.map .int)) (.tuple (ys.map .int))))) else none) = _
  rw [if_pos ⟨shaped_tup xs, shaped_tup ys⟩, PyData.eqv, eqv_ints]
theorem gEqv_int (f : Bool → Bool) (a b : Int) : gEqv f (.int a) (.int b) = some (.bl (f (decide (a = b)))) := by
  show (if SeqAt.shaped (.int a) = true ∧ SeqAt.shaped (.int b) = true then some (D.bl (f (PyData.eqv (.int a) (.int b)))) else none) = _
  rw [if_pos ⟨rfl, rfl⟩]
  rfl
theorem gEqv_nonint (f : Bool → Bool) (b : Int) : gEqv f .non (.int b) = some (.bl (f false)) := by
  show (if SeqAt.shaped .none = true ∧ SeqAt.shaped (.int b) = true then some (D.bl (f (PyData.eqv .none (.int b)))) else none) = _
  rw [if_pos ⟨rfl, rfl⟩]
  rfl
/-! ## dicts from naturals to naturals -/
abbrev nK (v : Nat) : Key := .inl (v : Int)
abbrev nD (v : Nat) : D := .int (v : Int)
def kks (q : List (Nat × Nat)) : List Key := q.map fun p => nK p.1
def kds (q : List (Nat × Nat)) : List D := q.map fun p => nD p.2
def put (q : List (Nat × Nat)) (v x : Nat) : List (Nat × Nat) := match q with
  | [] => [(v, x)]
  | p :: q => if p.1 = v then (v, x) :: q else p :: put q v x
theorem nK_inj {a b : Nat} : nK a = nK b ↔ a = b := by
  constructor
  · intro h
    have := Sum.inl.inj h
    omega
  · rintro rfl; rfl
theorem getK_n : ∀ (q : List (Nat × Nat)) (v : Nat), getK (kks q) (kds q) (nK v) = (q.lookup v).map nD
  | [], v => rfl
  | (a, x) :: q, v => by
    show (if nK a = nK v then some (nD x) else getK (kks q) (kds q) (nK v)) = _
    rw [getK_n q v, List.lookup_cons]
    by_cases h : a = v
    · subst h; simp
    · rw [if_neg fun k => h (nK_inj.mp k)]
      have : (v == a) = false := by simp; exact fun k => h k.symm
      rw [this]
theorem hasK_n : ∀ (q : List (Nat × Nat)) (v : Nat), hasK (kks q) (nK v) = (q.lookup v).isSome
  | [], v => rfl
  | (a, x) :: q, v => by
    show (decide (nK a = nK v) || hasK (kks q) (nK v)) = _
    rw [hasK_n q v, List.lookup_cons]
    by_cases h : a = v
    · subst h; simp
    · have : (v == a) = false := by simp; exact fun k => h k.symm
      rw [this, decide_eq_false fun k => h (nK_inj.mp k), Bool.false_or]
theorem put_none : ∀ (q : List (Nat × Nat)) (v x : Nat), q.lookup v = none → put q v x = q ++ [(v, x)]
  | [], _, _, _ => rfl
  | (a, y) :: q, v, x, h => by
    rw [List.lookup_cons] at h
    by_cases e : v = a
    · subst e; simp at h
    · have : (v == a) = false := by simp; exact e
      rw [this] at h
      show (if a = v then (v, x) :: q else (a, y) :: put q v x) = _
      rw [if_neg fun k => e k.symm, put_none q v x h]
      rfl
theorem put_kks (q : List (Nat × Nat)) (v x : Nat) : kks (put q v x) = putKs (kks q) (nK v) := by
  unfold putKs
  rw [hasK_n]
  induction q with
  | nil => rfl
  | cons p q ih =>
    obtain ⟨a, y⟩ := p
    rw [List.lookup_cons]
    by_cases e : a = v
    · subst e
      show kks (if a = a then (a, x) :: q else (a, y) :: put q a x) = _
      rw [if_pos rfl]
      simp [kks]
    · have : (v == a) = false := by simp; exact fun k => e k.symm
      rw [this]
      show kks (if a = v then (v, x) :: q else (a, y) :: put q v x) = _
      rw [if_neg e]
      show nK a :: kks (put q v x) = _
      rw [ih]
      split <;> rfl
theorem repl_n : ∀ (q : List (Nat × Nat)) (v x : Nat), (q.map Prod.fst).Nodup → (q.lookup v).isSome = true → repl (kks q) (kds q) (nK v) (nD x) = kds (put q v x)
  | [], _, _, _, h => by cases h
  | (a, y) :: q, v, x, hn, h => by
    show (if nK a = nK v then nD x else nD y) :: repl (kks q) (kds q) (nK v) (nD x) = kds (if a = v then (v, x) :: q else (a, y) :: put q v x)
    have hn2 := List.nodup_cons.mp hn
    by_cases e : a = v
    · subst e
      rw [if_pos rfl, if_pos rfl]
      have : ∀ q : List (Nat × Nat), a ∉ q.map Prod.fst → repl (kks q) (kds q) (nK a) (nD x) = kds q := fun q => by
        induction q with
        | nil => intro _; rfl
        | cons p q ih =>
          intro hq
          show (if nK p.1 = nK a then nD x else nD p.2) :: repl (kks q) (kds q) (nK a) (nD x) = nD p.2 :: kds q
          rw [if_neg fun k => hq (by rw [nK_inj] at k; simp [k]), ih fun k => hq (by simp at k ⊢; exact Or.inr k)]
      rw [this q hn2.1]
      rfl
    · rw [if_neg fun k => e (nK_inj.mp k), if_neg e]
      rw [List.lookup_cons] at h
      have e2 : (v == a) = false := by simp; exact fun k => e k.symm
      rw [e2] at h
      rw [repl_n q v x hn2.2 h]
      rfl
theorem putDs_n (q : List (Nat × Nat)) (v x : Nat) (hn : (q.map Prod.fst).Nodup) : putDs (kks q) (kds q) (nK v) (nD x) = kds (put q v x) := by
  unfold putDs
  rw [hasK_n]
  by_cases h : (q.lookup v).isSome = true
  · rw [if_pos h, repl_n q v x hn h]
  · rw [if_neg h]
    have : q.lookup v = none := by
      cases e : q.lookup v with
      | none => rfl
      | some y => rw [e] at h; exact absurd rfl h
    rw [put_none q v x this]
    unfold kds
    rw [List.map_append]
    rfl
theorem put_lookup : ∀ (q : List (Nat × Nat)) (v x u : Nat), (put q v x).lookup u = if u = v then some x else q.lookup u
  | [], v, x, u => by
    show List.lookup u [(v, x)] = _
    rw [List.lookup_cons]
    by_cases h : u = v
    · subst h; simp
    · have : (u == v) = false := by simp; exact h
      rw [this, if_neg h]
  | (a, y) :: q, v, x, u => by
    show List.lookup u (if a = v then (v, x) :: q else (a, y) :: put q v x) = _
    by_cases e : a = v
    · subst e
      rw [if_pos rfl, List.lookup_cons, List.lookup_cons]
      by_cases h : u = a
      · subst h; simp
      · have : (u == a) = false := by simp; exact h
        rw [this, if_neg h]
    · rw [if_neg e, List.lookup_cons, List.lookup_cons, put_lookup q v x u]
      by_cases h : u = a
      · subst h
        simp [e]
      · have : (u == a) = false := by simp; exact h
        rw [this]
theorem put_fst : ∀ (q : List (Nat × Nat)) (v x : Nat), (put q v x).map Prod.fst = if v ∈ q.map Prod.fst then q.map Prod.fst else q.map Prod.fst ++ [v]
  | [], v, x => by simp [put]
  | (a, y) :: q, v, x => by
    show (if a = v then (v, x) :: q else (a, y) :: put q v x).map Prod.fst = _
    by_cases e : a = v
    · subst e; simp
    · rw [if_neg e]
      show a :: (put q v x).map Prod.fst = _
      rw [put_fst q v x]
      have : v ∈ List.map Prod.fst ((a, y) :: q) ↔ v ∈ List.map Prod.fst q := by
        rw [List.map_cons, List.mem_cons]
        exact ⟨fun h => h.elim (fun h => absurd h.symm e) id, .inr⟩
      by_cases h : v ∈ List.map Prod.fst q
      · rw [if_pos h, if_pos (this.mpr h)]; rfl
      · rw [if_neg h, if_neg fun k => h (this.mp k)]; rfl
theorem lookup_mem {q : List (Nat × Nat)} {v x : Nat} (h : q.lookup v = some x) : (v, x) ∈ q := by
  induction q with
  | nil => cases h
  | cons p q ih =>
    obtain ⟨a, y⟩ := p
    rw [List.lookup_cons] at h
    by_cases e : v = a
    · subst e
      simp at h
      subst h
      simp
    · have : (v == a) = false := by simp; exact e
      rw [this] at h
      exact List.mem_cons_of_mem _ (ih h)
theorem lookup_none {q : List (Nat × Nat)} {v : Nat} : q.lookup v = none ↔ v ∉ q.map Prod.fst := by
  induction q with
  | nil => simp
  | cons p q ih =>
    obtain ⟨a, y⟩ := p
    rw [List.lookup_cons]
    by_cases e : v = a
    · subst e; simp
    · have : (v == a) = false := by simp; exact e
      rw [this]
      show List.lookup v q = none ↔ _
      rw [ih, List.map_cons, List.mem_cons]
      simp [e]
end M
namespace M
open PySem L2
theorem gSubs_tn (ds : List D) (k : Nat) : gSubs (.tup ds) (.int (k : Int)) = ds[k]? := atI_n ds k
theorem gSubs_ln (ds : List D) (k : Nat) : gSubs (.lst ds) (.int (k : Int)) = ds[k]? := atI_n ds k
theorem gSubs_t0 {a : D} {ds : List D} : gSubs (.tup (a :: ds)) (.int 0) = some a := gSubs_tn _ 0
theorem gSubs_t1 {a b : D} {ds : List D} : gSubs (.tup (a :: b :: ds)) (.int 1) = some b := gSubs_tn _ 1
theorem gSubs_t2 {a b c : D} {ds : List D} : gSubs (.tup (a :: b :: c :: ds)) (.int 2) = some c := gSubs_tn _ 2
theorem gSubs_l0 {a : D} {ds : List D} : gSubs (.lst (a :: ds)) (.int 0) = some a := gSubs_ln _ 0
theorem gSubs_l1 {a b : D} {ds : List D} : gSubs (.lst (a :: b :: ds)) (.int 1) = some b := gSubs_ln _ 1
/-! ## runs, step by step -/
section
variable {z z1 z2 z3 : Z} {d a b : D} {f : Mir} {n i : Nat} {s s' : List SObj} {m ma mb mc : Mi D} {ms : Mi (List D)} {ds : List D} {g g' : D → D → Option D} {gu : D → Option D} {t ta tb : Mi Bool} {x y : Bool} {k k' : Mi Fl} {r : R Fl} {rb : R Bool} {rd : R D} {fl : Fl}
theorem r_seq (h : k z = .ok .nx z1) (h2 : k' z1 = r) : mSeq k k' z = r := by unfold mSeq; rw [h]; exact h2
theorem r_out (h : k z = .ok (.rt d) z1) : mSeq k k' z = .ok (.rt d) z1 := by unfold mSeq; rw [h]
theorem r_outc (h : k z = .ok .ct z1) : mSeq k k' z = .ok .ct z1 := by unfold mSeq; rw [h]
theorem r_outx {c : Str} (h : k z = .ex c z1) : mSeq k k' z = .ex c z1 := by unfold mSeq; rw [h]
theorem r_iteT {α : Type} {A B : Mi α} {r : R α} (h : t z = .ok true z1) (h2 : A z1 = r) : mIte t A B z = r := by unfold mIte mBind; simp only [h]; exact h2
theorem r_iteF {α : Type} {A B : Mi α} {r : R α} (h : t z = .ok false z1) (h2 : B z1 = r) : mIte t A B z = r := by unfold mIte mBind; simp only [h]; exact h2
theorem r_not (h : t z = .ok x z1) : mNot t z = .ok (!x) z1 := by unfold mNot mBind; simp only [h]; rfl
theorem r_notT (h : t z = .ok true z1) : mNot t z = .ok false z1 := r_not h
theorem r_notF (h : t z = .ok false z1) : mNot t z = .ok true z1 := r_not h
theorem r_orF (h : ta z = .ok false z1) (h2 : tb z1 = rb) : mOr ta tb z = rb := by unfold mOr mBind; simp only [h]; exact h2
theorem r_orT (h : ta z = .ok true z1) : mOr ta tb z = .ok true z1 := by unfold mOr mBind; simp only [h]; rfl
theorem r_andT (h : ta z = .ok true z1) (h2 : tb z1 = rb) : mAnd ta tb z = rb := by unfold mAnd mBind; simp only [h]; exact h2
theorem r_andF (h : ta z = .ok false z1) : mAnd ta tb z = .ok false z1 := by unfold mAnd mBind; simp only [h]; rfl
theorem r_tru (h : m z = .ok (.bl x) z1) : mTru m z = .ok x z1 := by unfold mTru mBind; simp only [h]; rfl
theorem r_op (ha : ma z = .ok a z1) (hb : mb z1 = .ok b z2) (hg : g a b = some d) : mOp g ma mb z = .ok d z2 := by unfold mOp mBind; simp only [ha, hb, hg]; rfl
theorem r_opV (ha : ma z = .ok a z1) (hb : mb z1 = .ok b z2) (hg : g (vw z2.s a) b = some d) : mOpV g ma mb z = .ok d z2 := by unfold mOpV mBind; simp only [ha, hb, hg]; rfl
theorem r_opP (h0 : ((z.e[i]?).bind pk).isSome = true) (hb : mb z = .ok b z1) (ha : (z1.e[i]?).bind pk = some a) (hg : g a b = some d) : mOpP g i mb z = .ok d z1 := by
  unfold mOpP mBind mPk
  cases e : (z.e[i]?).bind pk with
  | none => rw [e] at h0; cases h0
  | some d0 => simp only [hb, ha, hg]; rfl
theorem r_un (h : m z = .ok a z1) (hg : gu a = some d) : mUn gu m z = .ok d z1 := by unfold mUn mBind; simp only [h, hg]; rfl
theorem r_unB {gb : D → Option (List D)} (h : m z = .ok a z1) (hg : gb a = some ds) : mUnB gb m z = .ok (.ml ds) z1 := by unfold mUnB mBind; simp only [h, hg]; rfl
theorem r_bin (ha : ma z = .ok a z1) (hb : mb z1 = .ok b z2) (hg : g a b = some d) : mBin g ma mb z = .ok d z2 := by unfold mBin mBind; simp only [ha, hb, hg]; rfl
theorem r_var (h : z.e[i]? = some (.v d)) : mVar i z = .ok d z := by unfold mVar; simp only [h]
theorem r_pk (h : (z.e[i]?).bind pk = some d) : mPk i z = .ok d z := by unfold mPk; simp only [h]
theorem r_view (h : m z = .ok a z1) : mView m z = .ok (vw z1.s a) z1 := by unfold mView mBind; simp only [h]
theorem r_nil {α : Type} {v : α} : mPure v z = .ok v z := rfl
theorem r_cons (h : m z = .ok d z1) (h2 : ms z1 = .ok ds z2) : mCons m ms z = .ok (d :: ds) z2 := by unfold mCons mBind; simp only [h, h2]; rfl
theorem r_call {e1 : List B} {s1 : List SObj} (ha : ms z = .ok ds ⟨e1, s1⟩) (hf : f ds s1 = .ok d s') (hl : ds.length = n := by rfl) : mCall n f ms z = .ok d ⟨e1, s'⟩ := by
  unfold mCall mBind
  simp only [ha]
  rw [if_pos hl]
  simp only [hf]
theorem r_callx {c : Str} {e1 : List B} {s1 : List SObj} (ha : ms z = .ok ds ⟨e1, s1⟩) (hf : f ds s1 = .ex c s') (hl : ds.length = n := by rfl) : mCall n f ms z = .ex c ⟨e1, s'⟩ := by
  unfold mCall mBind
  simp only [ha]
  rw [if_pos hl]
  simp only [hf]
theorem r_callK {nk : Nat} {pm : List Nat} {e1 : List B} {s1 : List SObj} (ha : ms z = .ok ds ⟨e1, s1⟩) (hf : f (mPerm pm ds) s1 = .ok d s') (hl : ds.length = nk := by rfl) (hl2 : (mPerm pm ds).length = n := by rfl) : mCallK n nk pm f ms z = .ok d ⟨e1, s'⟩ := by
  unfold mCallK mBind
  simp only [ha]
  rw [if_pos hl]
  exact r_call rfl hf hl2
theorem r_tup (h : ms z = .ok ds z1) (hl : ds.length ≤ sizeLine) : mTup ms z = .ok (.tup ds) z1 := by unfold mTup mBind; simp only [h]; rw [if_pos hl]; rfl
theorem r_lst (h : ms z = .ok ds z1) (hl : ds.length ≤ sizeLine) : mLst ms z = .ok (.ml ds) z1 := by unfold mLst mBind; simp only [h]; rw [if_pos hl]; rfl
theorem r_settle {w : B} {mB : Mi B} (h : mB z = .ok w z1) (hb : fzB w = some d) : mSettle mB z = .ok d z1 := by unfold mSettle mBind; simp only [h, hb]; rfl
theorem r_asg {tg : D → Z → Option Z} (h : m z = .ok d z1) (h2 : tg d z1 = some z2) : mAsg m tg z = .ok .nx z2 := by unfold mAsg mBind; simp only [h, h2]
theorem r_own {w : B} {mB : Mi B} (h : mB z = .ok w z1) : mOwn i mB z = .ok .nx ⟨z1.e.set i w, z1.s⟩ := by unfold mOwn mBind; simp only [h]
theorem r_ret (h : m z = .ok d z1) : mRet m z = .ok (.rt d) z1 := by unfold mRet mBind; simp only [h]; rfl
theorem r_drop (h : m z = .ok d z1) : mDrop m z = .ok .nx z1 := by unfold mDrop mBind; simp only [h]; rfl
theorem r_dropx {c : Str} (h : m z = .ex c z1) : mDrop m z = .ex c z1 := by unfold mDrop mBind; simp only [h]
theorem r_for {mi : Mi (List D)} {tg : D → Z → Option Z} (h : mi z = .ok ds z1) (h2 : mForGo tg k ds z1 = r) : mFor mi tg k z = r := by unfold mFor mBind; simp only [h]; exact h2
theorem r_items (h : m z = .ok d z1) (h2 : items d = some ds) : mItems m z = .ok ds z1 := by unfold mItems mBind; simp only [h, h2]; rfl
theorem r_range {j : Nat} (h : m z = .ok (.int (j : Int)) z1) (hj : j ≤ 1000000) : mRange1 m z = .ok ((List.range j).map nD) z1 := by
  unfold mRange1 mBind
  simp only [h]
  rw [if_pos (by omega), Int.toNat_natCast, upto0]
  rfl
theorem r_andVT (h : ma z = .ok (.bl true) z1) (h2 : mb z1 = rd) : mAndV ma mb z = rd := by unfold mAndV mBind; simp only [h]; exact h2
theorem r_andVF (h : ma z = .ok (.bl false) z1) : mAndV ma mb z = .ok (.bl false) z1 := by unfold mAndV mBind; simp only [h]; rfl
theorem r_notV (h : ma z = .ok (.bl x) z1) : mNotV ma z = .ok (.bl (!x)) z1 := by unfold mNotV mBind; simp only [h]; rfl
theorem r_chain (ha : ma z = .ok a z1) (hb : mb z1 = .ok b z2) (hg : g a b = some (.bl true)) {c : D} (hc : mc z2 = .ok c z3) (hg' : g' b c = some d) : mChain g g' ma mb mc z = .ok d z3 := by
  unfold mChain mBind
  simp only [ha, hb, hg, mLift, mPure, hc, hg']
theorem r_app {ds2 : List D} (h0 : ∃ ds0, z.e[i]? = some (.ml ds0)) (h : m z = .ok d z1) (h2 : z1.e[i]? = some (.ml ds2)) (hl : ds2.length < sizeLine) : mApp i m z = .ok .non ⟨z1.e.set i (.ml (ds2 ++ [d])), z1.s⟩ := by
  obtain ⟨ds0, h0⟩ := h0
  unfold mApp mBind
  simp only [h0, h, h2]
  rw [if_pos hl]
theorem r_asg2 {tg : D → Mi Unit} {u : Unit} (h : m z = .ok d z1) (h2 : tg d z1 = .ok u z2) : mAsg2 m tg z = .ok .nx z2 := by unfold mAsg2 mBind; simp only [h, h2]
theorem f_rt {ds : List D} (h : k ⟨ds.map .v ++ List.replicate (n - ds.length) .un, s⟩ = .ok (.rt d) z1) : mFun n k ds s = .ok d z1.s := by unfold mFun; simp only [h]
theorem f_nx {ds : List D} (h : k ⟨ds.map .v ++ List.replicate (n - ds.length) .un, s⟩ = .ok .nx z1) : mFun n k ds s = .ok .non z1.s := by unfold mFun; simp only [h]
theorem f_ex {ds : List D} {c : Str} (h : k ⟨ds.map .v ++ List.replicate (n - ds.length) .un, s⟩ = .ex c z1) : mFun n k ds s = .ex c z1.s := by unfold mFun; simp only [h]
end
end M
namespace M.K
open PySem L2 M
open PyProof.Rows (envOfC)
/-! ## the program's top -/
def top (i : Nat) : Stmt := PySem.Challenge.pw_callgames_k16_whole_forced_steps_and_tra.main.body.getD i (.Pass ⟨0, 0, 0, 0⟩)
abbrev st__law_die : Stmt := top 26
abbrev st__law_alike : Stmt := top 29
abbrev st__law_entry_right : Stmt := top 33
abbrev st__law_mixed : Stmt := top 28
abbrev st__law_one : Stmt := top 27
abbrev st__law_game : Stmt := top 30
abbrev st__law_pot : Stmt := top 25
abbrev st_is_int : Stmt := top 6
abbrev st_within : Stmt := top 7
abbrev st_are_ascending : Stmt := top 15
abbrev st_is_position : Stmt := top 12
abbrev st_is_game : Stmt := top 13
abbrev st_need_game : Stmt := top 14
abbrev st_need_player : Stmt := top 17
abbrev st_positions_before : Stmt := top 19
abbrev st_step_down : Stmt := top 21
abbrev st_steps_to : Stmt := top 20
abbrev st_steps_entries : Stmt := top 22
abbrev st_forced_steps : Stmt := top 23
abbrev st__law_word : Stmt := top 34
abbrev st_law : Stmt := top 35
structure Fx (S : Bs) : Prop where
  d__law_die : ∃ fa fd, Fun S.K ("_law_die" : Str) ("_law_die" : Str) st__law_die fa fd ∧ S.mg ("_law_die" : Str) = some (.ref fa)
  d__law_alike : ∃ fa fd, Fun S.K ("_law_alike" : Str) ("_law_alike" : Str) st__law_alike fa fd ∧ S.mg ("_law_alike" : Str) = some (.ref fa)
  d__law_entry_right : ∃ fa fd, Fun S.K ("_law_entry_right" : Str) ("_law_entry_right" : Str) st__law_entry_right fa fd ∧ S.mg ("_law_entry_right" : Str) = some (.ref fa)
  d__law_mixed : ∃ fa fd, Fun S.K ("_law_mixed" : Str) ("_law_mixed" : Str) st__law_mixed fa fd ∧ S.mg ("_law_mixed" : Str) = some (.ref fa)
  d__law_one : ∃ fa fd, Fun S.K ("_law_one" : Str) ("_law_one" : Str) st__law_one fa fd ∧ S.mg ("_law_one" : Str) = some (.ref fa)
  d__law_game : ∃ fa fd, Fun S.K ("_law_game" : Str) ("_law_game" : Str) st__law_game fa fd ∧ S.mg ("_law_game" : Str) = some (.ref fa)
  d__law_pot : ∃ fa fd, Fun S.K ("_law_pot" : Str) ("_law_pot" : Str) st__law_pot fa fd ∧ S.mg ("_law_pot" : Str) = some (.ref fa)
  d_is_int : ∃ fa fd, Fun S.K ("is_int" : Str) ("is_int" : Str) st_is_int fa fd ∧ S.mg ("is_int" : Str) = some (.ref fa)
  d_within : ∃ fa fd, Fun S.K ("within" : Str) ("within" : Str) st_within fa fd ∧ S.mg ("within" : Str) = some (.ref fa)
  d_are_ascending : ∃ fa fd, Fun S.K ("are_ascending" : Str) ("are_ascending" : Str) st_are_ascending fa fd ∧ S.mg ("are_ascending" : Str) = some (.ref fa)
  d_is_position : ∃ fa fd, Fun S.K ("is_position" : Str) ("is_position" : Str) st_is_position fa fd ∧ S.mg ("is_position" : Str) = some (.ref fa)
  d_is_game : ∃ fa fd, Fun S.K ("is_game" : Str) ("is_game" : Str) st_is_game fa fd ∧ S.mg ("is_game" : Str) = some (.ref fa)
  d_need_game : ∃ fa fd, Fun S.K ("need_game" : Str) ("need_game" : Str) st_need_game fa fd ∧ S.mg ("need_game" : Str) = some (.ref fa)
  d_need_player : ∃ fa fd, Fun S.K ("need_player" : Str) ("need_player" : Str) st_need_player fa fd ∧ S.mg ("need_player" : Str) = some (.ref fa)
  d_positions_before : ∃ fa fd, Fun S.K ("positions_before" : Str) ("positions_before" : Str) st_positions_before fa fd ∧ S.mg ("positions_before" : Str) = some (.ref fa)
  d_step_down : ∃ fa fd, Fun S.K ("step_down" : Str) ("step_down" : Str) st_step_down fa fd ∧ S.mg ("step_down" : Str) = some (.ref fa)
  d_steps_to : ∃ fa fd, Fun S.K ("steps_to" : Str) ("steps_to" : Str) st_steps_to fa fd ∧ S.mg ("steps_to" : Str) = some (.ref fa)
  d_steps_entries : ∃ fa fd, Fun S.K ("steps_entries" : Str) ("steps_entries" : Str) st_steps_entries fa fd ∧ S.mg ("steps_entries" : Str) = some (.ref fa)
  d_forced_steps : ∃ fa fd, Fun S.K ("forced_steps" : Str) ("forced_steps" : Str) st_forced_steps fa fd ∧ S.mg ("forced_steps" : Str) = some (.ref fa)
  d__law_word : ∃ fa fd, Fun S.K ("_law_word" : Str) ("_law_word" : Str) st__law_word fa fd ∧ S.mg ("_law_word" : Str) = some (.ref fa)
  d_law : ∃ fa fd, Fun S.K ("law" : Str) ("law" : Str) st_law fa fd ∧ S.mg ("law" : Str) = some (.ref fa)
  z_all : S.mg ("all" : Str) = none
  z_bool : S.mg ("bool" : Str) = none
  z_int : S.mg ("int" : Str) = none
  z_isinstance : S.mg ("isinstance" : Str) = none
  z_len : S.mg ("len" : Str) = none
  z_list : S.mg ("list" : Str) = none
  z_max : S.mg ("max" : Str) = none
  z_min : S.mg ("min" : Str) = none
  z_range : S.mg ("range" : Str) = none
  z_set : S.mg ("set" : Str) = none
  z_sorted : S.mg ("sorted" : Str) = none
  z_str : S.mg ("str" : Str) = none
  z_tuple : S.mg ("tuple" : Str) = none
  g_MOST_MARKS : ∃ t, S.mg ("MOST_MARKS" : Str) = some (.int 20 t)
  g_MOST_NEXTS : ∃ t, S.mg ("MOST_NEXTS" : Str) = some (.int 1002 t)
  g_MOST_POSITIONS : ∃ t, S.mg ("MOST_POSITIONS" : Str) = some (.int 10000 t)
  e_BadGame : Exc S ("BadGame" : Str)
  e_BadGoal : Exc S ("BadGoal" : Str)
  e_BadPlayer : Exc S ("BadPlayer" : Str)
  p_BadGoal_BadGoal : PySem.W.exmOne S.K ((S.mg ("BadGoal" : Str)).getD .none) ((S.mg ("BadGoal" : Str)).getD .none) = some true
  p_BadGoal_BadPlayer : PySem.W.exmOne S.K ((S.mg ("BadGoal" : Str)).getD .none) ((S.mg ("BadPlayer" : Str)).getD .none) = some false
  p_BadPlayer_BadPlayer : PySem.W.exmOne S.K ((S.mg ("BadPlayer" : Str)).getD .none) ((S.mg ("BadPlayer" : Str)).getD .none) = some true
/-! ### _law_die -/
abbrev N__law_die : List Str := [("pot" : Str), ("many" : Str), ("found" : Str)]
theorem s__law_die : FnScope N__law_die [("pot" : Str), ("many" : Str)] (defScope st__law_die) := ⟨rfl, rfl, rfl, by decide +kernel, rfl, by decide +kernel, by decide +kernel⟩
def m__law_die : Mi Fl := (mSeq (mIte (mAnd (mTru (mOpV gEq (mOpV gSubs (mVar 0) (mPure (.str ("left" : Str)))) (mPure (.int 0)))) (mTru (mOpV gNe (mOpV gSubs (mVar 0) (mPure (.str ("great" : Str)))) (mSettle (mLst (mPure [])))))) (mAsg2 (mSPop (mOpV gSubs (mVar 0) (mPure (.str ("great" : Str)))) (mPure (.int 0))) (tgSub (mVar 0) (mPure (.str ("left" : Str))))) (mFl .nx))
    (mSeq (mIte (mTru (mOp gGt (mOpV gSubs (mVar 0) (mPure (.str ("left" : Str)))) (mPure (.int 0)))) (mSeq (mAsg2 (mTup (mCons (mOp gMod (mUn gInt (mView (mOpV gSubs (mVar 0) (mPure (.str ("left" : Str)))))) (mPk 1)) (mCons (mOp gFdiv (mOpV gSubs (mVar 0) (mPure (.str ("left" : Str)))) (mPk 1)) (mPure [])))) (tg2Tup 2 (tgs2Cons (tgOne (tgName 2)) (tgs2Cons (tgSub (mVar 0) (mPure (.str ("left" : Str)))) tgs2Nil))))
    (mRet (mVar 2))) (mFl .nx))
    (mSeq (mAsg2 (mOp gAdd (mOpV gSubs (mVar 0) (mPure (.str ("turn" : Str)))) (mPure (.int 1))) (tgSub (mVar 0) (mPure (.str ("turn" : Str)))))
    (mSeq (mAsg2 (mOp gMod (mUn gInt (mOp gAdd (mOp gAdd (mOp gMul (mOpV gSubs (mVar 0) (mPure (.str ("mixed" : Str)))) (mPure (.int 48271))) (mOp gMul (mOpV gSubs (mVar 0) (mPure (.str ("turn" : Str)))) (mPure (.int 7919)))) (mPure (.int 11)))) (mPure (.int 2147483647))) (tgSub (mVar 0) (mPure (.str ("mixed" : Str)))))
    (mRet (mOp gMod (mUn gInt (mOp gFdiv (mOpV gSubs (mVar 0) (mPure (.str ("mixed" : Str)))) (mPure (.int 13)))) (mPk 1)))))))
def f__law_die : Mir := mFun 3 m__law_die
theorem c__law_die {S : Bs} (X : Fx S) : Cal S ("_law_die" : Str) 2 1 f__law_die := by
  obtain ⟨fa, fd, Fu, mgx⟩ := X.d__law_die
  exact cal_mk (N := N__law_die) (k := 0) (m := m__law_die) Fu mgx s__law_die (Fu.binds (ps := [("pot" : Str), ("many" : Str)]) fun _ _ _ _ _ _ us hl => match us, hl with | [_, _], _ => rfl) fun cdv A outer s H E hr =>
    (sss_cons (ss_if (SW.t (sw_and (st_eqV (se_subV (se_var 0) (SE.n se_str)) (SE.n se_int)) (sw_one (st_neV (se_subV (se_var 0) (SE.n se_str)) (SE.n (SB.se (sb_lst sa_nil))))))) (sss_one (ss_asg2 (se_spop (se_subV (se_var 0) (SE.n se_str)) se_int) (sg2_sub (se_var 0) se_str))) sss_nil)
    (sss_cons (ss_if (st_gt (se_subV (se_var 0) (SE.n se_str)) (SE.n se_int)) (sss_cons (ss_asg2 (se_tup (sa_cons (se_mod (se_intc (sn_view (se_subV (se_var 0) (SE.n se_str))) (by exact X.z_int)) (sn_var 1)) (sa_cons (se_fdiv (se_subV (se_var 0) (SE.n se_str)) (sn_var 1)) sa_nil))) (sg2_tup (sgs2_cons (SG.w (sg_name 2)) (sgs2_cons (sg2_sub (se_var 0) se_str) sgs2_nil))) (hw := by intro env he; cases env; cases he; rfl))
    (sss_one (ss_ret (se_var 2)))) sss_nil)
    (sss_cons (ss_asg2 (se_add (se_subV (se_var 0) (SE.n se_str)) (SE.n se_int)) (sg2_sub (se_var 0) se_str))
    (sss_cons (ss_asg2 (se_mod (se_intc (SE.n (se_add (se_add (se_mul (se_subV (se_var 0) (SE.n se_str)) (SE.n se_int)) (SE.n (se_mul (se_subV (se_var 0) (SE.n se_str)) (SE.n se_int)))) (SE.n se_int))) (by exact X.z_int)) (SE.n se_int)) (sg2_sub (se_var 0) se_str))
    (sss_one (ss_ret (se_mod (se_intc (SE.n (se_fdiv (se_subV (se_var 0) (SE.n se_str)) (SE.n se_int))) (by exact X.z_int)) (sn_var 1))))))))
/-! ### _law_alike -/
abbrev N__law_alike : List Str := [("one" : Str), ("other" : Str), ("k" : Str)]
theorem s__law_alike : FnScope N__law_alike [("one" : Str), ("other" : Str)] (defScope st__law_alike) := ⟨rfl, rfl, rfl, by decide +kernel, rfl, by decide +kernel, by decide +kernel⟩
theorem b__law_alike_1 : BlkOk N__law_alike (defScope st__law_alike) ({ kind := .function, names := [((".0" : Str), .local), (("k" : Str), .local), (("_law_alike" : Str), .globalImplicit), (("one" : Str), .free), (("other" : Str), .free)], isGenerator := false, isCoroutine := false, more := [] } : Scope) [(("k" : Str), 2)] := ⟨rfl, by decide +kernel, by decide +kernel, by decide +kernel, by decide +kernel⟩
def m__law_alike (f : Mir) : Mi Fl := (mSeq (mIte (mAnd (mTru (mUn (gIsi "tuple") (mVar 0))) (mTru (mUn (gIsi "tuple") (mVar 1)))) (mRet (mAndV (mOp gEq (mUn gLen (mPk 0)) (mUn gLen (mPk 1))) (mOp gEq (mSettle (mLc [2] (mRange1 (mUn gLen (mPk 0))) (tgName 2) (mNot (mTru (mCall 2 f (mCons (mOp gSubs (mVar 0) (mPk 2)) (mCons (mOp gSubs (mVar 1) (mPk 2)) (mPure [])))))) (mVar 2))) (mSettle (mLst (mPure [])))))) (mFl .nx))
    (mSeq (mIte (mOr (mTru (mOp gNe (mUn (gIsi "bool") (mVar 0)) (mUn (gIsi "bool") (mVar 1)))) (mTru (mOp gNe (mUn (gIsi "str") (mVar 0)) (mUn (gIsi "str") (mVar 1))))) (mRet (mPure (.bl false))) (mFl .nx))
    (mRet (mOp gEq (mVar 0) (mPk 1)))))
def f__law_alike : Nat → Mir
  | 0 => fun _ _ => .no
  | k + 1 => mFun 3 (m__law_alike (f__law_alike k))
theorem c__law_alike {S : Bs} (X : Fx S) : ∀ k : Nat, Cal S ("_law_alike" : Str) 2 (0 + k) (f__law_alike k)
  | 0 => by
    obtain ⟨fa, fd, Fu, mgx⟩ := X.d__law_alike
    exact (cal_no 2 Fu mgx s__law_alike (Fu.binds (ps := [("one" : Str), ("other" : Str)]) fun _ _ _ _ _ _ us hl => match us, hl with | [_, _], _ => rfl) rfl).up (Nat.zero_le _)
  | k + 1 => by
    obtain ⟨fa, fd, Fu, mgx⟩ := X.d__law_alike
    have c := c__law_alike X k
    exact cal_mk (N := N__law_alike) (k := 0 + k) (m := m__law_alike (f__law_alike k)) Fu mgx s__law_alike (Fu.binds (ps := [("one" : Str), ("other" : Str)]) fun _ _ _ _ _ _ us hl => match us, hl with | [_, _], _ => rfl) fun cdv A outer s H E hr =>
      (sss_cons (ss_if (SW.t (sw_and (st_val (se_isi (T := "tuple") (se_var 0) (by exact X.z_isinstance) (by exact X.z_tuple) rfl)) (sw_one (st_val (se_isi (T := "tuple") (se_var 1) (by exact X.z_isinstance) (by exact X.z_tuple) rfl))))) (sss_one (ss_ret (se_and (se_eq (se_len (sn_var 0) (by exact X.z_len)) (SE.n (se_len (sn_var 1) (by exact X.z_len)))) (se_one (se_eq (SB.se (sb_lc (own := [(("k" : Str), 2)]) (si_range1 (se_len (sn_var 0) (by exact X.z_len)) (by exact X.z_range)) b__law_alike_1 (sgw_name 2) (sts_one (st_not (st_val (se_call (by exact c) (sa_cons (se_sub_ (se_var 0) (sn_var 2)) (sa_cons (se_sub_ (se_var 1) (sn_var 2)) sa_nil)) (by first | exact Nat.le_refl _ | decide))))) (se_var 2))) (SE.n (SB.se (sb_lst sa_nil)))))))) sss_nil)
    (sss_cons (ss_if (SW.t (sw_or (st_ne (se_isi (T := "bool") (se_var 0) (by exact X.z_isinstance) (by exact X.z_bool) rfl) (SE.n (se_isi (T := "bool") (se_var 1) (by exact X.z_isinstance) (by exact X.z_bool) rfl))) (sw_one' (st_ne (se_isi (T := "str") (se_var 0) (by exact X.z_isinstance) (by exact X.z_str) rfl) (SE.n (se_isi (T := "str") (se_var 1) (by exact X.z_isinstance) (by exact X.z_str) rfl)))))) (sss_one (ss_ret se_bl)) sss_nil)
    (sss_one (ss_ret (se_eq (se_var 0) (sn_var 1))))))
/-! ### _law_entry_right -/
abbrev N__law_entry_right : List Str := [("game" : Str), ("player" : Str), ("goal" : Str), ("told" : Str), ("v" : Str), ("owner" : Str), ("mark" : Str), ("nexts" : Str), ("some" : Str), ("first" : Str), ("w" : Str)]
theorem s__law_entry_right : FnScope N__law_entry_right [("game" : Str), ("player" : Str), ("goal" : Str), ("told" : Str), ("v" : Str)] (defScope st__law_entry_right) := ⟨rfl, rfl, rfl, by decide +kernel, rfl, by decide +kernel, by decide +kernel⟩
theorem b__law_entry_right_1 : BlkOk N__law_entry_right (defScope st__law_entry_right) ({ kind := .function, names := [((".0" : Str), .local), (("w" : Str), .local), (("told" : Str), .free)], isGenerator := false, isCoroutine := false, more := [] } : Scope) [(("w" : Str), 10)] := ⟨rfl, by decide +kernel, by decide +kernel, by decide +kernel, by decide +kernel⟩
theorem b__law_entry_right_2 : BlkOk N__law_entry_right (defScope st__law_entry_right) ({ kind := .function, names := [((".0" : Str), .local), (("w" : Str), .local), (("min" : Str), .globalImplicit), (("some" : Str), .free), (("told" : Str), .free)], isGenerator := false, isCoroutine := false, more := [] } : Scope) [(("w" : Str), 10)] := ⟨rfl, by decide +kernel, by decide +kernel, by decide +kernel, by decide +kernel⟩
def m__law_entry_right : Mi Fl := (mSeq (mAsg (mOp gSubs (mVar 0) (mPk 4)) (tgTup 3 (tgsCons (tgName 5) (tgsCons (tgName 6) (tgsCons (tgName 7) tgsNil)))))
    (mSeq (mIte (mTru (mOp (gInA id) (mVar 4) (mPk 2))) (mRet (mCall 2 (f__law_alike 3) (mCons (mOp gSubs (mVar 3) (mPk 4)) (mCons (mTup (mCons (mPure (.int 0)) (mCons (mPure .non) (mPure [])))) (mPure []))))) (mFl .nx))
    (mSeq (mAsg (mSettle (mLc [10] (mItems (mVar 7)) (tgName 10) (mTru (mOp (gIs not) (mOp gSubs (mVar 3) (mPk 10)) (mPure .non))) (mOp gSubs (mOp gSubs (mVar 3) (mPk 10)) (mPure (.int 0))))) (tgName 8))
    (mSeq (mIte (mTru (mOp gEq (mVar 5) (mPk 1))) (mSeq (mIte (mTru (mOp gEq (mVar 8) (mSettle (mLst (mPure []))))) (mRet (mOp (gIs id) (mOp gSubs (mVar 3) (mPk 4)) (mPure .non))) (mFl .nx))
    (mSeq (mAsg (mOp gSubs (mSettle (mLc [10] (mItems (mVar 7)) (tgName 10) (mAnd (mTru (mOp (gIs not) (mOp gSubs (mVar 3) (mPk 10)) (mPure .non))) (mTru (mOp gEq (mOp gSubs (mOp gSubs (mVar 3) (mPk 10)) (mPure (.int 0))) (mUn gMin (mPk 8))))) (mVar 10))) (mPure (.int 0))) (tgName 9))
    (mRet (mCall 2 (f__law_alike 3) (mCons (mOp gSubs (mVar 3) (mPk 4)) (mCons (mTup (mCons (mOp gAdd (mUn gMin (mPk 8)) (mPure (.int 1))) (mCons (mVar 9) (mPure [])))) (mPure []))))))) (mFl .nx))
    (mRet (mIte (mTru (mOp gEq (mUn gLen (mPk 8)) (mUn gLen (mPk 7)))) (mCall 2 (f__law_alike 3) (mCons (mOp gSubs (mVar 3) (mPk 4)) (mCons (mTup (mCons (mOp gAdd (mUn gMax (mPk 8)) (mPure (.int 1))) (mCons (mPure .non) (mPure [])))) (mPure [])))) (mOp (gIs id) (mOp gSubs (mVar 3) (mPk 4)) (mPure .non))))))))
def f__law_entry_right : Mir := mFun 11 m__law_entry_right
theorem c__law_entry_right {S : Bs} (X : Fx S) : Cal S ("_law_entry_right" : Str) 5 4 f__law_entry_right := by
  obtain ⟨fa, fd, Fu, mgx⟩ := X.d__law_entry_right
  exact cal_mk (N := N__law_entry_right) (k := 3) (m := m__law_entry_right) Fu mgx s__law_entry_right (Fu.binds (ps := [("game" : Str), ("player" : Str), ("goal" : Str), ("told" : Str), ("v" : Str)]) fun _ _ _ _ _ _ us hl => match us, hl with | [_, _, _, _, _], _ => rfl) fun cdv A outer s H E hr =>
    (sss_cons (ss_asg (se_sub_ (se_var 0) (sn_var 4)) (sg_tup (sgs_cons (sg_name 5) (sgs_cons (sg_name 6) (sgs_cons (sg_name 7) sgs_nil)))))
    (sss_cons (ss_if (st_inA (se_var 4) (sn_var 2)) (sss_one (ss_ret (se_call (c__law_alike X 3) (sa_cons (se_sub_ (se_var 3) (sn_var 4)) (sa_cons (se_tup (sa_cons se_int (sa_cons se_non sa_nil))) sa_nil)) (Nat.le_of_ble_eq_true rfl)))) sss_nil)
    (sss_cons (ss_asg (SB.se (sb_lc (own := [(("w" : Str), 10)]) (si_seq (se_var 7)) b__law_entry_right_1 (sgw_name 10) (sts_one (st_isnot (se_sub_ (se_var 3) (sn_var 10)) (SE.n se_non))) (se_sub_ (se_sub_ (se_var 3) (sn_var 10)) (SE.n se_int)))) (sg_name 8) (hs := swap_of (spos := ⟨0, 0, 0, 0⟩) rfl rfl))
    (sss_cons (ss_if (st_eq (se_var 5) (sn_var 1)) (sss_cons (ss_if (st_eq (se_var 8) (SE.n (SB.se (sb_lst sa_nil)))) (sss_one (ss_ret (se_is (se_sub_ (se_var 3) (sn_var 4)) (SE.n se_non)))) sss_nil)
    (sss_cons (ss_asg (se_sub_ (SB.se (sb_lc (own := [(("w" : Str), 10)]) (si_seq (se_var 7)) b__law_entry_right_2 (sgw_name 10) (sts_one (SW.t (sw_and (st_isnot (se_sub_ (se_var 3) (sn_var 10)) (SE.n se_non)) (sw_one (st_eq (se_sub_ (se_sub_ (se_var 3) (sn_var 10)) (SE.n se_int)) (SE.n (se_min (sn_var 8) (by exact X.z_min)))))))) (se_var 10))) (SE.n se_int)) (sg_name 9))
    (sss_one (ss_ret (se_call (c__law_alike X 3) (sa_cons (se_sub_ (se_var 3) (sn_var 4)) (sa_cons (se_tup (sa_cons (se_add (se_min (sn_var 8) (by exact X.z_min)) (SE.n se_int)) (sa_cons (se_var 9) sa_nil))) sa_nil)) (Nat.le_of_ble_eq_true rfl)))))) sss_nil)
    (sss_one (ss_ret (se_ite (st_eq (se_len (sn_var 8) (by exact X.z_len)) (SE.n (se_len (sn_var 7) (by exact X.z_len)))) (se_call (c__law_alike X 3) (sa_cons (se_sub_ (se_var 3) (sn_var 4)) (sa_cons (se_tup (sa_cons (se_add (se_max (sn_var 8) (by exact X.z_max)) (SE.n se_int)) (sa_cons se_non sa_nil))) sa_nil)) (Nat.le_of_ble_eq_true rfl)) (se_is (se_sub_ (se_var 3) (sn_var 4)) (SE.n se_non)))))))))
/-! ### _law_mixed -/
abbrev N__law_mixed : List Str := [("pot" : Str), ("lot" : Str), ("left" : Str), ("found" : Str), ("turn" : Str)]
theorem s__law_mixed : FnScope N__law_mixed [("pot" : Str), ("lot" : Str)] (defScope st__law_mixed) := ⟨rfl, rfl, rfl, by decide +kernel, rfl, by decide +kernel, by decide +kernel⟩
def m__law_mixed : Mi Fl := (mSeq (mPar 2 3 (mUnB items (mPk 1)) (mLst (mPure [])))
    (mSeq (mFor (mRange1 (mUn gLen (mPk 2))) (tgName 4) (mDrop (mApp 3 (mPopAt 2 (mCall 2 f__law_die (mCons (mVar 0) (mCons (mUn gLen (mPk 2)) (mPure []))))))))
    (mRet (mVar 3))))
def f__law_mixed : Mir := mFun 5 m__law_mixed
theorem c__law_mixed {S : Bs} (X : Fx S) : Cal S ("_law_mixed" : Str) 2 2 f__law_mixed := by
  obtain ⟨fa, fd, Fu, mgx⟩ := X.d__law_mixed
  exact cal_mk (N := N__law_mixed) (k := 1) (m := m__law_mixed) Fu mgx s__law_mixed (Fu.binds (ps := [("pot" : Str), ("lot" : Str)]) fun _ _ _ _ _ _ us hl => match us, hl with | [_, _], _ => rfl) fun cdv A outer s H E hr =>
    (sss_cons (ss_par 2 3 (PV.b (sb_list (sn_var 1) (by exact X.z_list))) (PV.b (sb_lst sa_nil)) (hw := by intro env he; cases env; cases he; rfl))
    (sss_cons (ss_for (si_range1 (se_len (sn_var 2) (by exact X.z_len)) (by exact X.z_range)) (sg_name 4) (sss_one (ss_expr (se_append 3 (se_popAt 2 (se_call (c__law_die X) (sa_cons (se_var 0) (sa_cons (se_len (sn_var 2) (by exact X.z_len)) sa_nil)) (Nat.le_of_ble_eq_true rfl)))))))
    (sss_one (ss_ret (se_var 3)))))
/-! ### _law_one -/
abbrev N__law_one : List Str := [("pot" : Str), ("lot" : Str)]
theorem s__law_one : FnScope N__law_one [("pot" : Str), ("lot" : Str)] (defScope st__law_one) := ⟨rfl, rfl, rfl, by decide +kernel, rfl, by decide +kernel, by decide +kernel⟩
def m__law_one : Mi Fl := (mRet (mIte (mTru (mOp gNe (mVar 1) (mSettle (mLst (mPure []))))) (mOp gSubs (mVar 1) (mCall 2 f__law_die (mCons (mVar 0) (mCons (mUn gLen (mPk 1)) (mPure []))))) (mPure .non)))
def f__law_one : Mir := mFun 2 m__law_one
theorem c__law_one {S : Bs} (X : Fx S) : Cal S ("_law_one" : Str) 2 2 f__law_one := by
  obtain ⟨fa, fd, Fu, mgx⟩ := X.d__law_one
  exact cal_mk (N := N__law_one) (k := 1) (m := m__law_one) Fu mgx s__law_one (Fu.binds (ps := [("pot" : Str), ("lot" : Str)]) fun _ _ _ _ _ _ us hl => match us, hl with | [_, _], _ => rfl) fun cdv A outer s H E hr =>
    (sss_one (ss_ret (se_ite (st_ne (se_var 1) (SE.n (SB.se (sb_lst sa_nil)))) (se_sub_ (se_var 1) (SE.n (se_call (c__law_die X) (sa_cons (se_var 0) (sa_cons (se_len (sn_var 1) (by exact X.z_len)) sa_nil)) (Nat.le_of_ble_eq_true rfl)))) se_non)))
/-! ### _law_game -/
abbrev N__law_game : List Str := [("pot" : Str), ("many" : Str), ("marks" : Str), ("most" : Str), ("found" : Str), ("v" : Str), ("nexts" : Str)]
theorem s__law_game : FnScope N__law_game [("pot" : Str), ("many" : Str), ("marks" : Str), ("most" : Str)] (defScope st__law_game) := ⟨rfl, rfl, rfl, by decide +kernel, rfl, by decide +kernel, by decide +kernel⟩
def m__law_game : Mi Fl := (mSeq (mOwn 4 (mLst (mPure [])))
    (mSeq (mFor (mRange1 (mVar 1)) (tgName 5) (mSeq (mAsg (mUn gTuple (mSl (mCall 2 f__law_mixed (mCons (mVar 0) (mCons (mSettle (mListR1 (mVar 1))) (mPure [])))) (mPure none) (mBind (mOp gAdd (mPure (.int 1)) (mCall 2 f__law_die (mCons (mVar 0) (mCons (mBin gMin2 (mVar 3) (mVar 1)) (mPure []))))) fun d => mLift ((toI d).map some)))) (tgName 6))
    (mDrop (mApp 4 (mTup (mCons (mCall 2 f__law_die (mCons (mVar 0) (mCons (mPure (.int 2)) (mPure [])))) (mCons (mCall 2 f__law_one (mCons (mVar 0) (mCons (mVar 2) (mPure [])))) (mCons (mVar 6) (mPure [])))))))))
    (mRet (mUn gTuple (mPk 4)))))
def f__law_game : Mir := mFun 7 m__law_game
theorem c__law_game {S : Bs} (X : Fx S) : Cal S ("_law_game" : Str) 4 3 f__law_game := by
  obtain ⟨fa, fd, Fu, mgx⟩ := X.d__law_game
  exact cal_mk (N := N__law_game) (k := 2) (m := m__law_game) Fu mgx s__law_game (Fu.binds (ps := [("pot" : Str), ("many" : Str), ("marks" : Str), ("most" : Str)]) fun _ _ _ _ _ _ us hl => match us, hl with | [_, _, _, _], _ => rfl) fun cdv A outer s H E hr =>
    (sss_cons (ss_own 4 (sb_lst sa_nil))
    (sss_cons (ss_for (si_range1 (se_var 1) (by exact X.z_range)) (sg_name 5) (sss_cons (ss_asg (se_tuple (SE.n (se_slice (se_call (c__law_mixed X) (sa_cons (se_var 0) (sa_cons (SB.se (sb_listR1 (se_var 1) (by exact X.z_list) (by exact X.z_range))) sa_nil)) (Nat.le_of_ble_eq_true rfl)) so_none (so_some (se_add se_int (SE.n (se_call (c__law_die X) (sa_cons (se_var 0) (sa_cons (se_min2 (se_var 3) (se_var 1) (by exact X.z_min)) sa_nil)) (Nat.le_of_ble_eq_true rfl))))))) (by exact X.z_tuple)) (sg_name 6))
    (sss_one (ss_expr (se_append 4 (se_tup (sa_cons (se_call (c__law_die X) (sa_cons (se_var 0) (sa_cons se_int sa_nil)) (Nat.le_of_ble_eq_true rfl)) (sa_cons (se_call (c__law_one X) (sa_cons (se_var 0) (sa_cons (se_var 2) sa_nil)) (Nat.le_of_ble_eq_true rfl)) (sa_cons (se_var 6) sa_nil)))))))))
    (sss_one (ss_ret (se_tuple (sn_var 4) (by exact X.z_tuple))))))
/-! ### _law_pot -/
abbrev N__law_pot : List Str := [("script" : Str), ("mixed" : Str), ("cell" : Str)]
theorem s__law_pot : FnScope N__law_pot [("script" : Str)] (defScope st__law_pot) := ⟨rfl, rfl, rfl, by decide +kernel, rfl, by decide +kernel, by decide +kernel⟩
theorem b__law_pot_1 : BlkOk N__law_pot (defScope st__law_pot) ({ kind := .function, names := [((".0" : Str), .local), (("cell" : Str), .local), (("int" : Str), .globalImplicit)], isGenerator := false, isCoroutine := false, more := [] } : Scope) [(("cell" : Str), 2)] := ⟨rfl, by decide +kernel, by decide +kernel, by decide +kernel, by decide +kernel⟩
def m__law_pot : Mi Fl := (mSeq (mAsg (mPure (.int 50021)) (tgName 1))
    (mSeq (mFor (mItems (mSl (mVar 0) (mPure none) (mBind (mPure (.int 63)) fun d => mLift ((toI d).map some)))) (tgName 2) (mAsg (mOp gMod (mUn gInt (mOp gAdd (mOp gAdd (mOp gMul (mVar 1) (mPure (.int 16807))) (mOp gMod (mUn gInt (mPk 2)) (mPure (.int 1000003)))) (mPure (.int 12345)))) (mPure (.int 2147483647))) (tgName 1)))
    (mRet (mShare (mDisp [((mPure (.str ("great" : Str))), (mShare (mLc [2] (mItems (mSl (mVar 0) (mPure none) (mBind (mPure (.int 63)) fun d => mLift ((toI d).map some)))) (tgName 2) (mTru (mOp gGe (mVar 2) (mOp gPow (mPure (.int 10)) (mPure (.int 18))))) (mUn gInt (mPk 2))))), ((mPure (.str ("left" : Str))), (mPure (.int 0))), ((mPure (.str ("mixed" : Str))), (mVar 1)), ((mPure (.str ("turn" : Str))), (mPure (.int 0)))])))))
def f__law_pot : Mir := mFun 3 m__law_pot
theorem c__law_pot {S : Bs} (X : Fx S) : Cal S ("_law_pot" : Str) 1 1 f__law_pot := by
  obtain ⟨fa, fd, Fu, mgx⟩ := X.d__law_pot
  exact cal_mk (N := N__law_pot) (k := 0) (m := m__law_pot) Fu mgx s__law_pot (Fu.binds (ps := [("script" : Str)]) fun _ _ _ _ _ _ us hl => match us, hl with | [_], _ => rfl) fun cdv A outer s H E hr =>
    (sss_cons (ss_asg se_int (sg_name 1))
    (sss_cons (ss_for (si_seq (se_slice (se_var 0) so_none (so_some se_int))) (sg_name 2) (sss_one (ss_asg (se_mod (se_intc (SE.n (se_add (se_add (se_mul (se_var 1) (SE.n se_int)) (SE.n (se_mod (se_intc (sn_var 2) (by exact X.z_int)) (SE.n se_int)))) (SE.n se_int))) (by exact X.z_int)) (SE.n se_int)) (sg_name 1))))
    (sss_one (ss_ret (se_share (sb_disp (spp_cons se_str (se_share (sb_lc (own := [(("cell" : Str), 2)]) (si_seq (se_slice (se_var 0) so_none (so_some se_int))) b__law_pot_1 (sgw_name 2) (sts_one (st_ge (se_var 2) (SE.n (se_pow se_int (SE.n se_int))))) (se_intc (sn_var 2) (by exact X.z_int)))) (spp_cons se_str se_int (spp_cons se_str (se_var 1) (spp_cons se_str se_int spp_nil))))))))))
/-! ### is_int -/
abbrev N_is_int : List Str := [("thing" : Str)]
theorem s_is_int : FnScope N_is_int [("thing" : Str)] (defScope st_is_int) := ⟨rfl, rfl, rfl, by decide +kernel, rfl, by decide +kernel, by decide +kernel⟩
def m_is_int : Mi Fl := (mRet (mAndV (mUn (gIsi "int") (mVar 0)) (mNotV (mUn (gIsi "bool") (mVar 0)))))
def f_is_int : Mir := mFun 1 m_is_int
theorem c_is_int {S : Bs} (X : Fx S) : Cal S ("is_int" : Str) 1 1 f_is_int := by
  obtain ⟨fa, fd, Fu, mgx⟩ := X.d_is_int
  exact cal_mk (N := N_is_int) (k := 0) (m := m_is_int) Fu mgx s_is_int (Fu.binds (ps := [("thing" : Str)]) fun _ _ _ _ _ _ us hl => match us, hl with | [_], _ => rfl) fun cdv A outer s H E hr =>
    (sss_one (ss_ret (se_and (se_isi (T := "int") (se_var 0) (by exact X.z_isinstance) (by exact X.z_int) rfl) (se_one (se_not (se_isi (T := "bool") (se_var 0) (by exact X.z_isinstance) (by exact X.z_bool) rfl))))))
/-! ### within -/
abbrev N_within : List Str := [("thing" : Str), ("low" : Str), ("high" : Str)]
theorem s_within : FnScope N_within [("thing" : Str), ("low" : Str), ("high" : Str)] (defScope st_within) := ⟨rfl, rfl, rfl, by decide +kernel, rfl, by decide +kernel, by decide +kernel⟩
def m_within : Mi Fl := (mRet (mAndV (mCall 1 f_is_int (mCons (mVar 0) (mPure []))) (mChain gLe gLe (mVar 1) (mVar 0) (mPk 2))))
def f_within : Mir := mFun 3 m_within
theorem c_within {S : Bs} (X : Fx S) : Cal S ("within" : Str) 3 2 f_within := by
  obtain ⟨fa, fd, Fu, mgx⟩ := X.d_within
  exact cal_mk (N := N_within) (k := 1) (m := m_within) Fu mgx s_within (Fu.binds (ps := [("thing" : Str), ("low" : Str), ("high" : Str)]) fun _ _ _ _ _ _ us hl => match us, hl with | [_, _, _], _ => rfl) fun cdv A outer s H E hr =>
    (sss_one (ss_ret (se_and (se_call (c_is_int X) (sa_cons (se_var 0) sa_nil) (Nat.le_of_ble_eq_true rfl)) (se_one (se_lele (se_var 1) (se_var 0) (sn_var 2))))))
/-! ### are_ascending -/
abbrev N_are_ascending : List Str := [("thing" : Str), ("many" : Str), ("v" : Str), ("k" : Str)]
theorem s_are_ascending : FnScope N_are_ascending [("thing" : Str), ("many" : Str)] (defScope st_are_ascending) := ⟨rfl, rfl, rfl, by decide +kernel, rfl, by decide +kernel, by decide +kernel⟩
theorem b_are_ascending_1 : BlkOk N_are_ascending (defScope st_are_ascending) ({ kind := .function, names := [((".0" : Str), .local), (("v" : Str), .local), (("within" : Str), .globalImplicit), (("many" : Str), .free)], isGenerator := false, isCoroutine := false, more := [] } : Scope) [(("v" : Str), 2)] := ⟨rfl, by decide +kernel, by decide +kernel, by decide +kernel, by decide +kernel⟩
theorem b_are_ascending_2 : BlkOk N_are_ascending (defScope st_are_ascending) ({ kind := .function, names := [((".0" : Str), .local), (("k" : Str), .local), (("thing" : Str), .free)], isGenerator := false, isCoroutine := false, more := [] } : Scope) [(("k" : Str), 3)] := ⟨rfl, by decide +kernel, by decide +kernel, by decide +kernel, by decide +kernel⟩
def m_are_ascending : Mi Fl := (mSeq (mIte (mOr (mNot (mTru (mUn (gIsi "tuple") (mVar 0)))) (mNot (mTru (mUn gAll (mSettle (mLc [2] (mItems (mVar 0)) (tgName 2) (mPure true) (mCall 3 f_within (mCons (mVar 2) (mCons (mPure (.int 0)) (mCons (mOp gSub (mVar 1) (mPure (.int 1))) (mPure []))))))))))) (mRet (mPure (.bl false))) (mFl .nx))
    (mRet (mUn gAll (mSettle (mLc [3] (mRange1 (mOp gSub (mUn gLen (mPk 0)) (mPure (.int 1)))) (tgName 3) (mPure true) (mOp gLt (mOp gSubs (mVar 0) (mPk 3)) (mOp gSubs (mVar 0) (mOp gAdd (mVar 3) (mPure (.int 1))))))))))
def f_are_ascending : Mir := mFun 4 m_are_ascending
theorem c_are_ascending {S : Bs} (X : Fx S) : Cal S ("are_ascending" : Str) 2 3 f_are_ascending := by
  obtain ⟨fa, fd, Fu, mgx⟩ := X.d_are_ascending
  exact cal_mk (N := N_are_ascending) (k := 2) (m := m_are_ascending) Fu mgx s_are_ascending (Fu.binds (ps := [("thing" : Str), ("many" : Str)]) fun _ _ _ _ _ _ us hl => match us, hl with | [_, _], _ => rfl) fun cdv A outer s H E hr =>
    (sss_cons (ss_if (SW.t (sw_or (st_not (st_val (se_isi (T := "tuple") (se_var 0) (by exact X.z_isinstance) (by exact X.z_tuple) rfl))) (sw_one' (st_not (st_val (se_all (SE.n (SB.se (sb_lc (own := [(("v" : Str), 2)]) (si_seq (se_var 0)) b_are_ascending_1 (sgw_name 2) sts_nil (se_call (c_within X) (sa_cons (se_var 2) (sa_cons se_int (sa_cons (se_sub (se_var 1) (SE.n se_int)) sa_nil))) (Nat.le_of_ble_eq_true rfl))))) (by exact X.z_all))))))) (sss_one (ss_ret se_bl)) sss_nil)
    (sss_one (ss_ret (se_all (SE.n (SB.se (sb_lc (own := [(("k" : Str), 3)]) (si_range1 (se_sub (se_len (sn_var 0) (by exact X.z_len)) (SE.n se_int)) (by exact X.z_range)) b_are_ascending_2 (sgw_name 3) sts_nil (se_lt (se_sub_ (se_var 0) (sn_var 3)) (SE.n (se_sub_ (se_var 0) (SE.n (se_add (se_var 3) (SE.n se_int))))))))) (by exact X.z_all)))))
/-! ### is_position -/
abbrev N_is_position : List Str := [("thing" : Str), ("many" : Str), ("owner" : Str), ("mark" : Str), ("nexts" : Str), ("v" : Str)]
theorem s_is_position : FnScope N_is_position [("thing" : Str), ("many" : Str)] (defScope st_is_position) := ⟨rfl, rfl, rfl, by decide +kernel, rfl, by decide +kernel, by decide +kernel⟩
theorem b_is_position_1 : BlkOk N_is_position (defScope st_is_position) ({ kind := .function, names := [((".0" : Str), .local), (("v" : Str), .local), (("within" : Str), .globalImplicit), (("many" : Str), .free)], isGenerator := false, isCoroutine := false, more := [] } : Scope) [(("v" : Str), 5)] := ⟨rfl, by decide +kernel, by decide +kernel, by decide +kernel, by decide +kernel⟩
def m_is_position : Mi Fl := (mSeq (mIte (mOr (mNot (mTru (mUn (gIsi "tuple") (mVar 0)))) (mTru (mOp gNe (mUn gLen (mPk 0)) (mPure (.int 3))))) (mRet (mPure (.bl false))) (mFl .nx))
    (mSeq (mAsg (mVar 0) (tgTup 3 (tgsCons (tgName 2) (tgsCons (tgName 3) (tgsCons (tgName 4) tgsNil)))))
    (mSeq (mIte (mOr (mNot (mTru (mCall 3 f_within (mCons (mVar 2) (mCons (mPure (.int 0)) (mCons (mPure (.int 1)) (mPure []))))))) (mOr (mNot (mTru (mCall 1 f_is_int (mCons (mVar 3) (mPure []))))) (mTru (mOp gLt (mVar 3) (mPure (.int 0)))))) (mRet (mPure (.bl false))) (mFl .nx))
    (mSeq (mIte (mOr (mNot (mTru (mUn (gIsi "tuple") (mVar 4)))) (mNot (mTru (mChain gLe gLe (mPure (.int 1)) (mUn gLen (mPk 4)) (mPure (.int 1002)))))) (mRet (mPure (.bl false))) (mFl .nx))
    (mRet (mAndV (mUn gAll (mSettle (mLc [5] (mItems (mVar 4)) (tgName 5) (mPure true) (mCall 3 f_within (mCons (mVar 5) (mCons (mPure (.int 0)) (mCons (mOp gSub (mVar 1) (mPure (.int 1))) (mPure [])))))))) (mOp gEq (mUn gLenSet (mPk 4)) (mUn gLen (mPk 4)))))))))
def f_is_position : Mir := mFun 6 m_is_position
theorem c_is_position {S : Bs} (X : Fx S) : Cal S ("is_position" : Str) 2 3 f_is_position := by
  obtain ⟨fa, fd, Fu, mgx⟩ := X.d_is_position
  exact cal_mk (N := N_is_position) (k := 2) (m := m_is_position) Fu mgx s_is_position (Fu.binds (ps := [("thing" : Str), ("many" : Str)]) fun _ _ _ _ _ _ us hl => match us, hl with | [_, _], _ => rfl) fun cdv A outer s H E hr =>
    (sss_cons (ss_if (SW.t (sw_or (st_not (st_val (se_isi (T := "tuple") (se_var 0) (by exact X.z_isinstance) (by exact X.z_tuple) rfl))) (sw_one' (st_ne (se_len (sn_var 0) (by exact X.z_len)) (SE.n se_int))))) (sss_one (ss_ret se_bl)) sss_nil)
    (sss_cons (ss_asg (se_var 0) (sg_tup (sgs_cons (sg_name 2) (sgs_cons (sg_name 3) (sgs_cons (sg_name 4) sgs_nil)))))
    (sss_cons (ss_if (SW.t (sw_or (st_not (st_val (se_call (c_within X) (sa_cons (se_var 2) (sa_cons se_int (sa_cons se_int sa_nil))) (Nat.le_of_ble_eq_true rfl)))) (sw_or (st_not (st_val (se_call (c_is_int X) (sa_cons (se_var 3) sa_nil) (Nat.le_of_ble_eq_true rfl)))) (sw_one' (st_lt (se_var 3) (SE.n se_int)))))) (sss_one (ss_ret se_bl)) sss_nil)
    (sss_cons (ss_if (SW.t (sw_or (st_not (st_val (se_isi (T := "tuple") (se_var 4) (by exact X.z_isinstance) (by exact X.z_tuple) rfl))) (sw_one' (st_not (st_lele se_int (se_len (sn_var 4) (by exact X.z_len)) (SE.n (se_globI (by exact X.g_MOST_NEXTS)))))))) (sss_one (ss_ret se_bl)) sss_nil)
    (sss_one (ss_ret (se_and (se_all (SE.n (SB.se (sb_lc (own := [(("v" : Str), 5)]) (si_seq (se_var 4)) b_is_position_1 (sgw_name 5) sts_nil (se_call (c_within X) (sa_cons (se_var 5) (sa_cons se_int (sa_cons (se_sub (se_var 1) (SE.n se_int)) sa_nil))) (Nat.le_of_ble_eq_true rfl))))) (by exact X.z_all)) (se_one (se_eq (se_lenSet (sn_var 4) (by exact X.z_len) (by exact X.z_set)) (SE.n (se_len (sn_var 4) (by exact X.z_len))))))))))))
/-! ### is_game -/
abbrev N_is_game : List Str := [("thing" : Str), ("row" : Str)]
theorem s_is_game : FnScope N_is_game [("thing" : Str)] (defScope st_is_game) := ⟨rfl, rfl, rfl, by decide +kernel, rfl, by decide +kernel, by decide +kernel⟩
theorem b_is_game_1 : BlkOk N_is_game (defScope st_is_game) ({ kind := .function, names := [((".0" : Str), .local), (("row" : Str), .local)], isGenerator := false, isCoroutine := false, more := [] } : Scope) [(("row" : Str), 1)] := ⟨rfl, by decide +kernel, by decide +kernel, by decide +kernel, by decide +kernel⟩
def m_is_game : Mi Fl := (mSeq (mIte (mOr (mNot (mTru (mUn (gIsi "tuple") (mVar 0)))) (mNot (mTru (mChain gLe gLe (mPure (.int 1)) (mUn gLen (mPk 0)) (mPure (.int 10000)))))) (mRet (mPure (.bl false))) (mFl .nx))
    (mSeq (mFor (mItems (mVar 0)) (tgName 1) (mIte (mNot (mTru (mCall 2 f_is_position (mCons (mVar 1) (mCons (mUn gLen (mPk 0)) (mPure [])))))) (mRet (mPure (.bl false))) (mFl .nx)))
    (mRet (mOp gLe (mUn gLenSet (mSettle (mLc [1] (mItems (mVar 0)) (tgName 1) (mPure true) (mOp gSubs (mVar 1) (mPure (.int 1)))))) (mPure (.int 20))))))
def f_is_game : Mir := mFun 2 m_is_game
theorem c_is_game {S : Bs} (X : Fx S) : Cal S ("is_game" : Str) 1 4 f_is_game := by
  obtain ⟨fa, fd, Fu, mgx⟩ := X.d_is_game
  exact cal_mk (N := N_is_game) (k := 3) (m := m_is_game) Fu mgx s_is_game (Fu.binds (ps := [("thing" : Str)]) fun _ _ _ _ _ _ us hl => match us, hl with | [_], _ => rfl) fun cdv A outer s H E hr =>
    (sss_cons (ss_if (SW.t (sw_or (st_not (st_val (se_isi (T := "tuple") (se_var 0) (by exact X.z_isinstance) (by exact X.z_tuple) rfl))) (sw_one' (st_not (st_lele se_int (se_len (sn_var 0) (by exact X.z_len)) (SE.n (se_globI (by exact X.g_MOST_POSITIONS)))))))) (sss_one (ss_ret se_bl)) sss_nil)
    (sss_cons (ss_for (si_seq (se_var 0)) (sg_name 1) (sss_one (ss_if (st_not (st_val (se_call (c_is_position X) (sa_cons (se_var 1) (sa_cons (se_len (sn_var 0) (by exact X.z_len)) sa_nil)) (Nat.le_of_ble_eq_true rfl)))) (sss_one (ss_ret se_bl)) sss_nil)))
    (sss_one (ss_ret (se_le (se_lenSet (SE.n (SB.se (sb_lc (own := [(("row" : Str), 1)]) (si_seq (se_var 0)) b_is_game_1 (sgw_name 1) sts_nil (se_sub_ (se_var 1) (SE.n se_int))))) (by exact X.z_len) (by exact X.z_set)) (SE.n (se_globI (by exact X.g_MOST_MARKS))))))))
/-! ### need_game -/
abbrev N_need_game : List Str := [("game" : Str)]
theorem s_need_game : FnScope N_need_game [("game" : Str)] (defScope st_need_game) := ⟨rfl, rfl, rfl, by decide +kernel, rfl, by decide +kernel, by decide +kernel⟩
def m_need_game : Mi Fl := (mIte (mNot (mTru (mCall 1 f_is_game (mCons (mVar 0) (mPure []))))) (mRaise ("BadGame" : Str)) (mFl .nx))
def f_need_game : Mir := mFun 1 m_need_game
theorem c_need_game {S : Bs} (X : Fx S) : Cal S ("need_game" : Str) 1 5 f_need_game := by
  obtain ⟨fa, fd, Fu, mgx⟩ := X.d_need_game
  exact cal_mk (N := N_need_game) (k := 4) (m := m_need_game) Fu mgx s_need_game (Fu.binds (ps := [("game" : Str)]) fun _ _ _ _ _ _ us hl => match us, hl with | [_], _ => rfl) fun cdv A outer s H E hr =>
    (sss_one (ss_if (st_not (st_val (se_call (c_is_game X) (sa_cons (se_var 0) sa_nil) (Nat.le_of_ble_eq_true rfl)))) (sss_one (ss_raise (by exact X.e_BadGame))) sss_nil))
/-! ### need_player -/
abbrev N_need_player : List Str := [("player" : Str)]
theorem s_need_player : FnScope N_need_player [("player" : Str)] (defScope st_need_player) := ⟨rfl, rfl, rfl, by decide +kernel, rfl, by decide +kernel, by decide +kernel⟩
def m_need_player : Mi Fl := (mIte (mNot (mTru (mCall 3 f_within (mCons (mVar 0) (mCons (mPure (.int 0)) (mCons (mPure (.int 1)) (mPure []))))))) (mRaise ("BadPlayer" : Str)) (mFl .nx))
def f_need_player : Mir := mFun 1 m_need_player
theorem c_need_player {S : Bs} (X : Fx S) : Cal S ("need_player" : Str) 1 3 f_need_player := by
  obtain ⟨fa, fd, Fu, mgx⟩ := X.d_need_player
  exact cal_mk (N := N_need_player) (k := 2) (m := m_need_player) Fu mgx s_need_player (Fu.binds (ps := [("player" : Str)]) fun _ _ _ _ _ _ us hl => match us, hl with | [_], _ => rfl) fun cdv A outer s H E hr =>
    (sss_one (ss_if (st_not (st_val (se_call (c_within X) (sa_cons (se_var 0) (sa_cons se_int (sa_cons se_int sa_nil))) (Nat.le_of_ble_eq_true rfl)))) (sss_one (ss_raise (by exact X.e_BadPlayer))) sss_nil))
/-! ### positions_before -/
abbrev N_positions_before : List Str := [("game" : Str), ("before" : Str), ("v" : Str), ("w" : Str), ("row" : Str)]
theorem s_positions_before : FnScope N_positions_before [("game" : Str)] (defScope st_positions_before) := ⟨rfl, rfl, rfl, by decide +kernel, rfl, by decide +kernel, by decide +kernel⟩
theorem b_positions_before_1 : BlkOk N_positions_before (defScope st_positions_before) ({ kind := .function, names := [((".0" : Str), .local), (("row" : Str), .local)], isGenerator := false, isCoroutine := false, more := [] } : Scope) [(("row" : Str), 4)] := ⟨rfl, by decide +kernel, by decide +kernel, by decide +kernel, by decide +kernel⟩
def m_positions_before : Mi Fl := (mSeq (mOwn 1 (mLcB [4] (mItems (mVar 0)) (tgName 4) (mPure true) (mLst (mPure []))))
    (mSeq (mFor (mRange1 (mUn gLen (mPk 0))) (tgName 2) (mFor (mItems (mOp gSubs (mOp gSubs (mVar 0) (mPk 2)) (mPure (.int 2)))) (tgName 3) (mDrop (mAppAt 1 (mVar 3) (mVar 2)))))
    (mRet (mVar 1))))
def f_positions_before : Mir := mFun 5 m_positions_before
theorem c_positions_before {S : Bs} (X : Fx S) : Cal S ("positions_before" : Str) 1 1 f_positions_before := by
  obtain ⟨fa, fd, Fu, mgx⟩ := X.d_positions_before
  exact cal_mk (N := N_positions_before) (k := 0) (m := m_positions_before) Fu mgx s_positions_before (Fu.binds (ps := [("game" : Str)]) fun _ _ _ _ _ _ us hl => match us, hl with | [_], _ => rfl) fun cdv A outer s H E hr =>
    (sss_cons (ss_ownLcB 1 (own := [(("row" : Str), 4)]) (si_seq (se_var 0)) b_positions_before_1 (sgw_name 4) sts_nil (sb_lst sa_nil) (swap_of rfl rfl))
    (sss_cons (ss_for (si_range1 (se_len (sn_var 0) (by exact X.z_len)) (by exact X.z_range)) (sg_name 2) (sss_one (ss_for (si_seq (se_sub_ (se_sub_ (se_var 0) (sn_var 2)) (SE.n se_int))) (sg_name 3) (sss_one (ss_expr (se_appAt 1 (se_var 3) (se_var 2)))))))
    (sss_one (ss_ret (se_var 1)))))
/-! ### step_down -/
abbrev N_step_down : List Str := [("game" : Str), ("steps" : Str), ("v" : Str), ("w" : Str)]
theorem s_step_down : FnScope N_step_down [("game" : Str), ("steps" : Str), ("v" : Str)] (defScope st_step_down) := ⟨rfl, rfl, rfl, by decide +kernel, rfl, by decide +kernel, by decide +kernel⟩
def m_step_down : Mi Fl := (mSeq (mFor (mItems (mOp gSubs (mOp gSubs (mVar 0) (mPk 2)) (mPure (.int 2)))) (tgName 3) (mIte (mTru (mOp gEq (mGet1 1 (mVar 3)) (mOp gSub (mOp gSubs (mVar 1) (mPk 2)) (mPure (.int 1))))) (mRet (mVar 3)) (mFl .nx)))
    (mRet (mPure .non)))
def f_step_down : Mir := mFun 4 m_step_down
theorem c_step_down {S : Bs} (X : Fx S) : Cal S ("step_down" : Str) 3 1 f_step_down := by
  obtain ⟨fa, fd, Fu, mgx⟩ := X.d_step_down
  exact cal_mk (N := N_step_down) (k := 0) (m := m_step_down) Fu mgx s_step_down (Fu.binds (ps := [("game" : Str), ("steps" : Str), ("v" : Str)]) fun _ _ _ _ _ _ us hl => match us, hl with | [_, _, _], _ => rfl) fun cdv A outer s H E hr =>
    (sss_cons (ss_for (si_seq (se_sub_ (se_sub_ (se_var 0) (sn_var 2)) (SE.n se_int))) (sg_name 3) (sss_one (ss_if (st_eq (se_get1 1 (se_var 3)) (SE.n (se_sub (se_sub_ (se_var 1) (sn_var 2)) (SE.n se_int)))) (sss_one (ss_ret (se_var 3))) sss_nil)))
    (sss_one (ss_ret se_non)))
/-! ### steps_to -/
abbrev N_steps_to : List Str := [("game" : Str), ("before" : Str), ("alive" : Str), ("player" : Str), ("goal" : Str), ("v" : Str), ("steps" : Str), ("waiting" : Str), ("queue" : Str), ("at" : Str), ("w" : Str), ("u" : Str)]
theorem s_steps_to : FnScope N_steps_to [("game" : Str), ("before" : Str), ("alive" : Str), ("player" : Str), ("goal" : Str)] (defScope st_steps_to) := ⟨rfl, rfl, rfl, by decide +kernel, rfl, by decide +kernel, by decide +kernel⟩
theorem b_steps_to_1 : BlkOk N_steps_to (defScope st_steps_to) ({ kind := .function, names := [((".0" : Str), .local), (("v" : Str), .local)], isGenerator := false, isCoroutine := false, more := [] } : Scope) [(("v" : Str), 5)] := ⟨rfl, by decide +kernel, by decide +kernel, by decide +kernel, by decide +kernel⟩
theorem b_steps_to_2 : BlkOk N_steps_to (defScope st_steps_to) ({ kind := .function, names := [((".0" : Str), .local), (("u" : Str), .local), (("alive" : Str), .free)], isGenerator := false, isCoroutine := false, more := [] } : Scope) [(("u" : Str), 11)] := ⟨rfl, by decide +kernel, by decide +kernel, by decide +kernel, by decide +kernel⟩
def m_steps_to : Mi Fl := (mSeq (mOwn 6 (mDc [5] (mItems (mVar 4)) (tgName 5) (mPure true) (mVar 5) (mPure (.int 0))))
    (mSeq (mOwn 7 (mPure (.md [] [])))
    (mSeq (mOwn 8 (mUnB items (mPk 4)))
    (mSeq (mAsg (mPure (.int 0)) (tgName 9))
    (mSeq (mWhile (mTru (mOp gLt (mVar 9) (mUn gLen (mPk 8)))) (mSeq (mAsg (mOpP gSubs 8 (mPk 9)) (tgName 10))
    (mSeq (mAug (fun a b => a + b) 9 (mPure (.int 1)))
    (mFor (mItems (mOp gSubs (mVar 1) (mPk 10))) (tgName 5) (mSeq (mIte (mOr (mNot (mTru (mOp gSubs (mVar 2) (mPk 5)))) (mTru (mOp (gInA id) (mVar 5) (mPk 6)))) (mFl .ct) (mFl .nx))
    (mSeq (mIte (mTru (mOp gNe (mOp gSubs (mOp gSubs (mVar 0) (mPk 5)) (mPure (.int 0))) (mPk 3))) (mSeq (mIte (mTru (mOp (gInA not) (mVar 5) (mPk 7))) (mAsg2 (mUn gLen (mSettle (mLc [11] (mItems (mOp gSubs (mOp gSubs (mVar 0) (mPk 5)) (mPure (.int 2)))) (tgName 11) (mTru (mOp gSubs (mVar 2) (mPk 11))) (mVar 11)))) (tgSubP 7 (mVar 5))) (mFl .nx))
    (mSeq (mDAug (fun a b => a - b) 7 (mVar 5) (mPure (.int 1)))
    (mIte (mTru (mOp gGt (mOpP gSubs 7 (mPk 5)) (mPure (.int 0)))) (mFl .ct) (mFl .nx)))) (mFl .nx))
    (mSeq (mAsg2 (mOp gAdd (mOpP gSubs 6 (mPk 10)) (mPure (.int 1))) (tgSubP 6 (mVar 5)))
    (mDrop (mApp 8 (mVar 5))))))))) 1000000)
    (mRet (mVar 6)))))))
def f_steps_to : Mir := mFun 12 m_steps_to
theorem c_steps_to {S : Bs} (X : Fx S) : Cal S ("steps_to" : Str) 5 1 f_steps_to := by
  obtain ⟨fa, fd, Fu, mgx⟩ := X.d_steps_to
  exact cal_mk (N := N_steps_to) (k := 0) (m := m_steps_to) Fu mgx s_steps_to (Fu.binds (ps := [("game" : Str), ("before" : Str), ("alive" : Str), ("player" : Str), ("goal" : Str)]) fun _ _ _ _ _ _ us hl => match us, hl with | [_, _, _, _, _], _ => rfl) fun cdv A outer s H E hr =>
    (sss_cons (ss_ownDc 6 (own := [(("v" : Str), 5)]) (si_seq (se_var 4)) b_steps_to_1 (sgw_name 5) sts_nil (se_var 5) se_int (swap_ofD rfl rfl))
    (sss_cons (ss_own 7 sb_dnew)
    (sss_cons (ss_own 8 (sb_list (sn_var 4) (by exact X.z_list)))
    (sss_cons (ss_asg se_int (sg_name 9))
    (sss_cons (ss_while 1000000 (st_lt (se_var 9) (SE.n (se_len (sn_var 8) (by exact X.z_len)))) (sss_cons (ss_asg (se_subP 8 (sn_var 9)) (sg_name 10))
    (sss_cons (ss_augAdd 9 se_int)
    (sss_one (ss_for (si_seq (se_sub_ (se_var 1) (sn_var 10))) (sg_name 5) (sss_cons (ss_if (SW.t (sw_or (st_not (st_val (se_sub_ (se_var 2) (sn_var 5)))) (sw_one' (st_inA (se_var 5) (sn_var 6))))) (sss_one ss_cont) sss_nil)
    (sss_cons (ss_if (st_ne (se_sub_ (se_sub_ (se_var 0) (sn_var 5)) (SE.n se_int)) (sn_var 3)) (sss_cons (ss_if (st_ninA (se_var 5) (sn_var 7)) (sss_one (ss_asg2 (se_len (SE.n (SB.se (sb_lc (own := [(("u" : Str), 11)]) (si_seq (se_sub_ (se_sub_ (se_var 0) (sn_var 5)) (SE.n se_int))) b_steps_to_2 (sgw_name 11) (sts_one (st_val (se_sub_ (se_var 2) (sn_var 11)))) (se_var 11)))) (by exact X.z_len)) (sg2_subP 7 (se_var 5)))) sss_nil)
    (sss_cons (ss_daugSub 7 (se_var 5) se_int)
    (sss_one (ss_if (st_gt (se_subP 7 (sn_var 5)) (SE.n se_int)) (sss_one ss_cont) sss_nil)))) sss_nil)
    (sss_cons (ss_asg2 (se_add (se_subP 6 (sn_var 10)) (SE.n se_int)) (sg2_subP 6 (se_var 5)))
    (sss_one (ss_expr (se_append 8 (se_var 5))))))))))))
    (sss_one (ss_ret (se_var 6))))))))
/-! ### steps_entries -/
abbrev N_steps_entries : List Str := [("game" : Str), ("player" : Str), ("goal" : Str), ("steps" : Str), ("entries" : Str), ("v" : Str)]
theorem s_steps_entries : FnScope N_steps_entries [("game" : Str), ("player" : Str), ("goal" : Str)] (defScope st_steps_entries) := ⟨rfl, rfl, rfl, by decide +kernel, rfl, by decide +kernel, by decide +kernel⟩
def m_steps_entries : Mi Fl := (mSeq (mAsg (mCall 5 f_steps_to (mCons (mVar 0) (mCons (mCall 1 f_positions_before (mCons (mVar 0) (mPure []))) (mCons (mOp gMul (mSettle (mLst (mCons (mPure (.bl true)) (mPure [])))) (mUn gLen (mPk 0))) (mCons (mVar 1) (mCons (mSettle (mUnB items (mPk 2))) (mPure []))))))) (tgName 3))
    (mSeq (mOwn 4 (mLst (mPure [])))
    (mSeq (mFor (mRange1 (mUn gLen (mPk 0))) (tgName 5) (mIte (mTru (mOp (gInA not) (mVar 5) (mPk 3))) (mDrop (mApp 4 (mPure .non))) (mIte (mAnd (mTru (mOp gGt (mOp gSubs (mVar 3) (mPk 5)) (mPure (.int 0)))) (mTru (mOp gEq (mOp gSubs (mOp gSubs (mVar 0) (mPk 5)) (mPure (.int 0))) (mPk 1)))) (mDrop (mApp 4 (mTup (mCons (mOp gSubs (mVar 3) (mPk 5)) (mCons (mCall 3 f_step_down (mCons (mVar 0) (mCons (mVar 3) (mCons (mVar 5) (mPure []))))) (mPure [])))))) (mDrop (mApp 4 (mTup (mCons (mOp gSubs (mVar 3) (mPk 5)) (mCons (mPure .non) (mPure [])))))))))
    (mRet (mUn gTuple (mPk 4))))))
def f_steps_entries : Mir := mFun 6 m_steps_entries
theorem c_steps_entries {S : Bs} (X : Fx S) : Cal S ("steps_entries" : Str) 3 2 f_steps_entries := by
  obtain ⟨fa, fd, Fu, mgx⟩ := X.d_steps_entries
  exact cal_mk (N := N_steps_entries) (k := 1) (m := m_steps_entries) Fu mgx s_steps_entries (Fu.binds (ps := [("game" : Str), ("player" : Str), ("goal" : Str)]) fun _ _ _ _ _ _ us hl => match us, hl with | [_, _, _], _ => rfl) fun cdv A outer s H E hr =>
    (sss_cons (ss_asg (se_call (c_steps_to X) (sa_cons (se_var 0) (sa_cons (se_call (c_positions_before X) (sa_cons (se_var 0) sa_nil) (Nat.le_of_ble_eq_true rfl)) (sa_cons (se_mul (SB.se (sb_lst (sa_cons se_bl sa_nil))) (SE.n (se_len (sn_var 0) (by exact X.z_len)))) (sa_cons (se_var 1) (sa_cons (SB.se (sb_list (sn_var 2) (by exact X.z_list))) sa_nil))))) (Nat.le_of_ble_eq_true rfl)) (sg_name 3))
    (sss_cons (ss_own 4 (sb_lst sa_nil))
    (sss_cons (ss_for (si_range1 (se_len (sn_var 0) (by exact X.z_len)) (by exact X.z_range)) (sg_name 5) (sss_one (ss_if (st_ninA (se_var 5) (sn_var 3)) (sss_one (ss_expr (se_append 4 se_non))) (sss_one (ss_if (SW.t (sw_and (st_gt (se_sub_ (se_var 3) (sn_var 5)) (SE.n se_int)) (sw_one (st_eq (se_sub_ (se_sub_ (se_var 0) (sn_var 5)) (SE.n se_int)) (sn_var 1))))) (sss_one (ss_expr (se_append 4 (se_tup (sa_cons (se_sub_ (se_var 3) (sn_var 5)) (sa_cons (se_call (c_step_down X) (sa_cons (se_var 0) (sa_cons (se_var 3) (sa_cons (se_var 5) sa_nil))) (Nat.le_of_ble_eq_true rfl)) sa_nil)))))) (sss_one (ss_expr (se_append 4 (se_tup (sa_cons (se_sub_ (se_var 3) (sn_var 5)) (sa_cons se_non sa_nil)))))))))))
    (sss_one (ss_ret (se_tuple (sn_var 4) (by exact X.z_tuple)))))))
/-! ### forced_steps -/
abbrev N_forced_steps : List Str := [("game" : Str), ("player" : Str), ("goal" : Str)]
theorem s_forced_steps : FnScope N_forced_steps [("game" : Str), ("player" : Str), ("goal" : Str)] (defScope st_forced_steps) := ⟨rfl, rfl, rfl, by decide +kernel, rfl, by decide +kernel, by decide +kernel⟩
def m_forced_steps : Mi Fl := (mSeq (mDrop (mCall 1 f_need_game (mCons (mVar 0) (mPure []))))
    (mSeq (mDrop (mCall 1 f_need_player (mCons (mVar 1) (mPure []))))
    (mSeq (mIte (mNot (mTru (mCall 2 f_are_ascending (mCons (mVar 2) (mCons (mUn gLen (mPk 0)) (mPure [])))))) (mRaise ("BadGoal" : Str)) (mFl .nx))
    (mRet (mCall 3 f_steps_entries (mCons (mVar 0) (mCons (mVar 1) (mCons (mVar 2) (mPure [])))))))))
def f_forced_steps : Mir := mFun 3 m_forced_steps
theorem c_forced_steps {S : Bs} (X : Fx S) : Cal S ("forced_steps" : Str) 3 6 f_forced_steps := by
  obtain ⟨fa, fd, Fu, mgx⟩ := X.d_forced_steps
  exact cal_mk (N := N_forced_steps) (k := 5) (m := m_forced_steps) Fu mgx s_forced_steps (Fu.binds (ps := [("game" : Str), ("player" : Str), ("goal" : Str)]) fun _ _ _ _ _ _ us hl => match us, hl with | [_, _, _], _ => rfl) fun cdv A outer s H E hr =>
    (sss_cons (ss_expr (se_call (c_need_game X) (sa_cons (se_var 0) sa_nil) (Nat.le_of_ble_eq_true rfl)))
    (sss_cons (ss_expr (se_call (c_need_player X) (sa_cons (se_var 1) sa_nil) (Nat.le_of_ble_eq_true rfl)))
    (sss_cons (ss_if (st_not (st_val (se_call (c_are_ascending X) (sa_cons (se_var 2) (sa_cons (se_len (sn_var 0) (by exact X.z_len)) sa_nil)) (Nat.le_of_ble_eq_true rfl)))) (sss_one (ss_raise (by exact X.e_BadGoal))) sss_nil)
    (sss_one (ss_ret (se_call (c_steps_entries X) (sa_cons (se_var 0) (sa_cons (se_var 1) (sa_cons (se_var 2) sa_nil))) (Nat.le_of_ble_eq_true rfl)))))))
theorem k_forced_steps_goal_player_game {S : Bs} (X : Fx S) : KCal S ("forced_steps" : Str) 3 6 [("goal" : Str), ("player" : Str), ("game" : Str)] [2, 1, 0] f_forced_steps :=
  kcal_mk [("game" : Str), ("player" : Str), ("goal" : Str)] X.d_forced_steps (fun _ _ Fu _ => fn_mk (N := N_forced_steps) (ps := [("game" : Str), ("player" : Str), ("goal" : Str)]) (k := 5) (m := m_forced_steps) Fu s_forced_steps fun cdv A outer s H E hr =>
    (sss_cons (ss_expr (se_call (c_need_game X) (sa_cons (se_var 0) sa_nil) (Nat.le_of_ble_eq_true rfl)))
    (sss_cons (ss_expr (se_call (c_need_player X) (sa_cons (se_var 1) sa_nil) (Nat.le_of_ble_eq_true rfl)))
    (sss_cons (ss_if (st_not (st_val (se_call (c_are_ascending X) (sa_cons (se_var 2) (sa_cons (se_len (sn_var 0) (by exact X.z_len)) sa_nil)) (Nat.le_of_ble_eq_true rfl)))) (sss_one (ss_raise (by exact X.e_BadGoal))) sss_nil)
    (sss_one (ss_ret (se_call (c_steps_entries X) (sa_cons (se_var 0) (sa_cons (se_var 1) (sa_cons (se_var 2) sa_nil))) (Nat.le_of_ble_eq_true rfl)))))))) fun _ _ _ _ _ _ ws hl => match ws, hl with | [_, _, _], _ => rfl
/-! ### _law_word -/
abbrev N__law_word : List Str := [("game" : Str), ("player" : Str), ("goal" : Str), ("word" : Str)]
theorem s__law_word : FnScope N__law_word [("game" : Str), ("player" : Str), ("goal" : Str)] (defScope st__law_word) := ⟨rfl, rfl, rfl, by decide +kernel, rfl, by decide +kernel, by decide +kernel⟩
def m__law_word : Mi Fl := (mSeq (mAsg (mPure (.str ("" : Str))) (tgName 3))
    (mSeq (mTry (mDrop (mCall 3 f_forced_steps (mCons (mVar 0) (mCons (mVar 1) (mCons (mVar 2) (mPure [])))))) [⟨[("BadPlayer" : Str)], [("BadGoal" : Str)], (mAsg (mPure (.str ("player" : Str))) (tgName 3))⟩, ⟨[("BadGoal" : Str)], [], (mAsg (mPure (.str ("goal" : Str))) (tgName 3))⟩])
    (mRet (mVar 3))))
def f__law_word : Mir := mFun 4 m__law_word
theorem c__law_word {S : Bs} (X : Fx S) : Cal S ("_law_word" : Str) 3 7 f__law_word := by
  obtain ⟨fa, fd, Fu, mgx⟩ := X.d__law_word
  exact cal_mk (N := N__law_word) (k := 6) (m := m__law_word) Fu mgx s__law_word (Fu.binds (ps := [("game" : Str), ("player" : Str), ("goal" : Str)]) fun _ _ _ _ _ _ us hl => match us, hl with | [_, _, _], _ => rfl) fun cdv A outer s H E hr =>
    (sss_cons (ss_asg se_str (sg_name 3))
    (sss_cons (ss_try (fun _ => (sss_one (ss_expr (se_call (c_forced_steps X) (sa_cons (se_var 0) (sa_cons (se_var 1) (sa_cons (se_var 2) sa_nil))) (Nat.le_of_ble_eq_true rfl))))) (SHd.cons (h := ⟨[("BadPlayer" : Str)], [("BadGoal" : Str)], (mAsg (mPure (.str ("player" : Str))) (tgName 3))⟩) rfl (by decide) (exc_ref X.e_BadPlayer) (exm_cons X.p_BadPlayer_BadPlayer (fun _ h => absurd h List.not_mem_nil)) (exm_cons X.p_BadGoal_BadPlayer (fun _ h => absurd h List.not_mem_nil)) (sss_one (ss_asg se_str (sg_name 3))) (SHd.cons (h := ⟨[("BadGoal" : Str)], [], (mAsg (mPure (.str ("goal" : Str))) (tgName 3))⟩) rfl (by decide) (exc_ref X.e_BadGoal) (exm_cons X.p_BadGoal_BadGoal (fun _ h => absurd h List.not_mem_nil)) (fun _ h => absurd h List.not_mem_nil) (sss_one (ss_asg se_str (sg_name 3))) SHd.nil)) (by rintro _ rfl; exact ⟨rfl, rfl⟩))
    (sss_one (ss_ret (se_var 3)))))
/-! ### law -/
abbrev N_law : List Str := [("script" : Str), ("pot" : Str), ("turn" : Str), ("game" : Str), ("player" : Str), ("many" : Str), ("goal" : Str), ("told" : Str), ("v" : Str), ("more" : Str), ("wide" : Str), ("all_of" : Str), ("again" : Str), ("bad" : Str)]
theorem s_law : FnScope N_law [("script" : Str)] (defScope st_law) := ⟨rfl, rfl, rfl, by decide +kernel, rfl, by decide +kernel, by decide +kernel⟩
theorem b_law_1 : BlkOk N_law (defScope st_law) ({ kind := .function, names := [((".0" : Str), .local), (("v" : Str), .local), (("_law_entry_right" : Str), .globalImplicit), (("game" : Str), .free), (("goal" : Str), .free), (("player" : Str), .free), (("told" : Str), .free)], isGenerator := false, isCoroutine := false, more := [] } : Scope) [(("v" : Str), 8)] := ⟨rfl, by decide +kernel, by decide +kernel, by decide +kernel, by decide +kernel⟩
theorem b_law_2 : BlkOk N_law (defScope st_law) ({ kind := .function, names := [((".0" : Str), .local), (("v" : Str), .local), (("told" : Str), .free)], isGenerator := false, isCoroutine := false, more := [] } : Scope) [(("v" : Str), 8)] := ⟨rfl, by decide +kernel, by decide +kernel, by decide +kernel, by decide +kernel⟩
theorem b_law_3 : BlkOk N_law (defScope st_law) ({ kind := .function, names := [((".0" : Str), .local), (("v" : Str), .local), (("again" : Str), .free)], isGenerator := false, isCoroutine := false, more := [] } : Scope) [(("v" : Str), 8)] := ⟨rfl, by decide +kernel, by decide +kernel, by decide +kernel, by decide +kernel⟩
def m_law : Mi Fl := (mSeq (mAsg (mCall 1 f__law_pot (mCons (mVar 0) (mPure []))) (tgName 1))
    (mSeq (mFor (mRange1 (mOp gAdd (mPure (.int 4)) (mBin gMin2 (mUn gLen (mPk 0)) (mPure (.int 8))))) (tgName 2) (mSeq (mAsg (mCall 4 f__law_game (mCons (mVar 1) (mCons (mOp gAdd (mPure (.int 1)) (mCall 2 f__law_die (mCons (mVar 1) (mCons (mOp gSubs (mSettle (mLst (mCons (mPure (.int 9)) (mCons (mPure (.int 60)) (mPure []))))) (mCall 2 f__law_die (mCons (mVar 1) (mCons (mPure (.int 2)) (mPure []))))) (mPure []))))) (mCons (mSettle (mLst (mCons (mPure (.int 3)) (mPure [])))) (mCons (mPure (.int 4)) (mPure [])))))) (tgName 3))
    (mSeq (mAsg (mTup (mCons (mCall 2 f__law_die (mCons (mVar 1) (mCons (mPure (.int 2)) (mPure [])))) (mCons (mUn gLen (mPk 3)) (mPure [])))) (tgTup 2 (tgsCons (tgName 4) (tgsCons (tgName 5) tgsNil))))
    (mSeq (mAsg (mUn gTuple (mSettle (mUnB gSorted (mSl (mCall 2 f__law_mixed (mCons (mVar 1) (mCons (mSettle (mListR1 (mVar 5))) (mPure [])))) (mPure none) (mBind (mCall 2 f__law_die (mCons (mVar 1) (mCons (mOp gAdd (mVar 5) (mPure (.int 1))) (mPure [])))) fun d => mLift ((toI d).map some)))))) (tgName 6))
    (mSeq (mAsg (mCallK 3 3 [2, 1, 0] f_forced_steps (mCons (mVar 6) (mCons (mVar 4) (mCons (mVar 3) (mPure []))))) (tgName 7))
    (mSeq (mIte (mOr (mNot (mTru (mUn (gIsi "tuple") (mVar 7)))) (mTru (mOp gNe (mUn gLen (mPk 7)) (mPk 5)))) (mRet (mPure (.bl false))) (mFl .nx))
    (mSeq (mIte (mTru (mOp gNe (mSettle (mLc [8] (mRange1 (mVar 5)) (tgName 8) (mNot (mTru (mCall 5 f__law_entry_right (mCons (mVar 3) (mCons (mVar 4) (mCons (mVar 6) (mCons (mVar 7) (mCons (mVar 8) (mPure []))))))))) (mVar 8))) (mSettle (mLst (mPure []))))) (mRet (mPure (.bl false))) (mFl .nx))
    (mSeq (mAsg (mUn gTuple (mSettle (mUnB gSortSet (mOp gAdd (mSettle (mUnB items (mPk 6))) (mSettle (mLst (mCons (mCall 2 f__law_die (mCons (mVar 1) (mCons (mVar 5) (mPure [])))) (mPure [])))))))) (tgName 9))
    (mSeq (mAsg (mCall 3 f_forced_steps (mCons (mVar 3) (mCons (mVar 4) (mCons (mVar 9) (mPure []))))) (tgName 10))
    (mSeq (mFor (mRange1 (mVar 5)) (tgName 8) (mIte (mAnd (mTru (mOp (gIs not) (mOp gSubs (mVar 7) (mPk 8)) (mPure .non))) (mOr (mTru (mOp (gIs id) (mOp gSubs (mVar 10) (mPk 8)) (mPure .non))) (mTru (mOp gGt (mOp gSubs (mOp gSubs (mVar 10) (mPk 8)) (mPure (.int 0))) (mOp gSubs (mOp gSubs (mVar 7) (mPk 8)) (mPure (.int 0))))))) (mRet (mPure (.bl false))) (mFl .nx)))
    (mSeq (mAsg (mUn gTuple (mSettle (mLc [8] (mRange1 (mVar 5)) (tgName 8) (mTru (mOp (gIs not) (mOp gSubs (mVar 7) (mPk 8)) (mPure .non))) (mVar 8)))) (tgName 11))
    (mSeq (mAsg (mCall 3 f_forced_steps (mCons (mVar 3) (mCons (mVar 4) (mCons (mVar 11) (mPure []))))) (tgName 12))
    (mSeq (mIte (mTru (mOp gNe (mUn gTuple (mSettle (mLc [8] (mRange1 (mVar 5)) (tgName 8) (mTru (mOp (gIs not) (mOp gSubs (mVar 12) (mPk 8)) (mPure .non))) (mVar 8)))) (mPk 11))) (mRet (mPure (.bl false))) (mFl .nx))
    (mSeq (mAsg (mCall 2 f__law_one (mCons (mVar 1) (mCons (mSettle (mLst (mCons (mPure .non) (mCons (mSettle (mUnB items (mPk 6))) (mCons (mOp gAdd (mVar 6) (mTup (mCons (mVar 5) (mPure [])))) (mCons (mTup (mCons (mPure (.int 0)) (mCons (mPure (.int 0)) (mPure [])))) (mCons (mTup (mCons (mPure (.bl true)) (mPure []))) (mCons (mTup (mCons (mBind (mPure (.int 1)) fun d => mLift (gNeg d)) (mPure []))) (mCons (mPure (.str ("0" : Str))) (mPure [])))))))))) (mPure [])))) (tgName 13))
    (mIte (mOr (mTru (mOp gNe (mCall 3 f__law_word (mCons (mVar 3) (mCons (mVar 4) (mCons (mVar 13) (mPure []))))) (mPure (.str ("goal" : Str))))) (mOr (mTru (mOp gNe (mCall 3 f__law_word (mCons (mVar 3) (mCons (mPure (.int 2)) (mCons (mVar 13) (mPure []))))) (mPure (.str ("player" : Str))))) (mTru (mOp gNe (mCall 3 f__law_word (mCons (mVar 3) (mCons (mPure (.bl true)) (mCons (mVar 6) (mPure []))))) (mPure (.str ("player" : Str))))))) (mRet (mPure (.bl false))) (mFl .nx))))))))))))))))
    (mRet (mPure (.bl true)))))
def f_law : Mir := mFun 14 m_law
theorem c_law {S : Bs} (X : Fx S) : Cal S ("law" : Str) 1 8 f_law := by
  obtain ⟨fa, fd, Fu, mgx⟩ := X.d_law
  exact cal_mk (N := N_law) (k := 7) (m := m_law) Fu mgx s_law (Fu.binds (ps := [("script" : Str)]) fun _ _ _ _ _ _ us hl => match us, hl with | [_], _ => rfl) fun cdv A outer s H E hr =>
    (sss_cons (ss_asg (se_call (c__law_pot X) (sa_cons (se_var 0) sa_nil) (Nat.le_of_ble_eq_true rfl)) (sg_name 1))
    (sss_cons (ss_for (si_range1 (se_add se_int (SE.n (se_min2 (se_len (sn_var 0) (by exact X.z_len)) se_int (by exact X.z_min)))) (by exact X.z_range)) (sg_name 2) (sss_cons (ss_asg (se_call (c__law_game X) (sa_cons (se_var 1) (sa_cons (se_add se_int (SE.n (se_call (c__law_die X) (sa_cons (se_var 1) (sa_cons (se_sub_ (SB.se (sb_lst (sa_cons se_int (sa_cons se_int sa_nil)))) (SE.n (se_call (c__law_die X) (sa_cons (se_var 1) (sa_cons se_int sa_nil)) (Nat.le_of_ble_eq_true rfl)))) sa_nil)) (Nat.le_of_ble_eq_true rfl)))) (sa_cons (SB.se (sb_lst (sa_cons se_int sa_nil))) (sa_cons se_int sa_nil)))) (Nat.le_of_ble_eq_true rfl)) (sg_name 3))
    (sss_cons (ss_asg (se_tup (sa_cons (se_call (c__law_die X) (sa_cons (se_var 1) (sa_cons se_int sa_nil)) (Nat.le_of_ble_eq_true rfl)) (sa_cons (se_len (sn_var 3) (by exact X.z_len)) sa_nil))) (sg_tup (sgs_cons (sg_name 4) (sgs_cons (sg_name 5) sgs_nil))) (hw := by intro env he; cases env; cases he; rfl))
    (sss_cons (ss_asg (se_tuple (SE.n (SB.se (sb_sorted (SE.n (se_slice (se_call (c__law_mixed X) (sa_cons (se_var 1) (sa_cons (SB.se (sb_listR1 (se_var 5) (by exact X.z_list) (by exact X.z_range))) sa_nil)) (Nat.le_of_ble_eq_true rfl)) so_none (so_some (se_call (c__law_die X) (sa_cons (se_var 1) (sa_cons (se_add (se_var 5) (SE.n se_int)) sa_nil)) (Nat.le_of_ble_eq_true rfl))))) (by exact X.z_sorted)))) (by exact X.z_tuple)) (sg_name 6))
    (sss_cons (ss_asg (se_callK (k_forced_steps_goal_player_game X) (sk_cons (se_var 6) (sk_cons (se_var 4) (sk_cons (se_var 3) sk_nil))) (Nat.le_of_ble_eq_true rfl)) (sg_name 7))
    (sss_cons (ss_if (SW.t (sw_or (st_not (st_val (se_isi (T := "tuple") (se_var 7) (by exact X.z_isinstance) (by exact X.z_tuple) rfl))) (sw_one' (st_ne (se_len (sn_var 7) (by exact X.z_len)) (sn_var 5))))) (sss_one (ss_ret se_bl)) sss_nil)
    (sss_cons (ss_if (st_ne (SB.se (sb_lc (own := [(("v" : Str), 8)]) (si_range1 (se_var 5) (by exact X.z_range)) b_law_1 (sgw_name 8) (sts_one (st_not (st_val (se_call (c__law_entry_right X) (sa_cons (se_var 3) (sa_cons (se_var 4) (sa_cons (se_var 6) (sa_cons (se_var 7) (sa_cons (se_var 8) sa_nil))))) (Nat.le_of_ble_eq_true rfl))))) (se_var 8))) (SE.n (SB.se (sb_lst sa_nil)))) (sss_one (ss_ret se_bl)) sss_nil)
    (sss_cons (ss_asg (se_tuple (SE.n (SB.se (sb_sortedSet (SE.n (se_add (SB.se (sb_list (sn_var 6) (by exact X.z_list))) (SE.n (SB.se (sb_lst (sa_cons (se_call (c__law_die X) (sa_cons (se_var 1) (sa_cons (se_var 5) sa_nil)) (Nat.le_of_ble_eq_true rfl)) sa_nil)))))) (by exact X.z_sorted) (by exact X.z_set)))) (by exact X.z_tuple)) (sg_name 9))
    (sss_cons (ss_asg (se_call (c_forced_steps X) (sa_cons (se_var 3) (sa_cons (se_var 4) (sa_cons (se_var 9) sa_nil))) (Nat.le_of_ble_eq_true rfl)) (sg_name 10))
    (sss_cons (ss_for (si_range1 (se_var 5) (by exact X.z_range)) (sg_name 8) (sss_one (ss_if (SW.t (sw_and (st_isnot (se_sub_ (se_var 7) (sn_var 8)) (SE.n se_non)) (sw_one (SW.t (sw_or (st_is (se_sub_ (se_var 10) (sn_var 8)) (SE.n se_non)) (sw_one' (st_gt (se_sub_ (se_sub_ (se_var 10) (sn_var 8)) (SE.n se_int)) (SE.n (se_sub_ (se_sub_ (se_var 7) (sn_var 8)) (SE.n se_int)))))))))) (sss_one (ss_ret se_bl)) sss_nil)))
    (sss_cons (ss_asg (se_tuple (SE.n (SB.se (sb_lc (own := [(("v" : Str), 8)]) (si_range1 (se_var 5) (by exact X.z_range)) b_law_2 (sgw_name 8) (sts_one (st_isnot (se_sub_ (se_var 7) (sn_var 8)) (SE.n se_non))) (se_var 8)))) (by exact X.z_tuple)) (sg_name 11))
    (sss_cons (ss_asg (se_call (c_forced_steps X) (sa_cons (se_var 3) (sa_cons (se_var 4) (sa_cons (se_var 11) sa_nil))) (Nat.le_of_ble_eq_true rfl)) (sg_name 12))
    (sss_cons (ss_if (st_ne (se_tuple (SE.n (SB.se (sb_lc (own := [(("v" : Str), 8)]) (si_range1 (se_var 5) (by exact X.z_range)) b_law_3 (sgw_name 8) (sts_one (st_isnot (se_sub_ (se_var 12) (sn_var 8)) (SE.n se_non))) (se_var 8)))) (by exact X.z_tuple)) (sn_var 11)) (sss_one (ss_ret se_bl)) sss_nil)
    (sss_cons (ss_asg (se_call (c__law_one X) (sa_cons (se_var 1) (sa_cons (SB.se (sb_lst (sa_cons se_non (sa_cons (SB.se (sb_list (sn_var 6) (by exact X.z_list))) (sa_cons (se_add (se_var 6) (SE.n (se_tup (sa_cons (se_var 5) sa_nil)))) (sa_cons (se_tup (sa_cons se_int (sa_cons se_int sa_nil))) (sa_cons (se_tup (sa_cons se_bl sa_nil)) (sa_cons (se_tup (sa_cons (se_neg se_int) sa_nil)) (sa_cons se_str sa_nil))))))))) sa_nil)) (Nat.le_of_ble_eq_true rfl)) (sg_name 13))
    (sss_one (ss_if (SW.t (sw_or (st_ne (se_call (c__law_word X) (sa_cons (se_var 3) (sa_cons (se_var 4) (sa_cons (se_var 13) sa_nil))) (Nat.le_of_ble_eq_true rfl)) (SE.n se_str)) (sw_or (st_ne (se_call (c__law_word X) (sa_cons (se_var 3) (sa_cons se_int (sa_cons (se_var 13) sa_nil))) (Nat.le_of_ble_eq_true rfl)) (SE.n se_str)) (sw_one' (st_ne (se_call (c__law_word X) (sa_cons (se_var 3) (sa_cons se_bl (sa_cons (se_var 6) sa_nil))) (Nat.le_of_ble_eq_true rfl)) (SE.n se_str)))))) (sss_one (ss_ret se_bl)) sss_nil))))))))))))))))
    (sss_one (ss_ret se_bl))))
theorem fn_law {S : Bs} (X : Fx S) {fa : Addr} {fd : FuncData} (Fu : Fun S.K "law" "law" st_law fa fd) : FnOk S.P S.w S.K S.mg S.base (L2.CX S.P S.w) 8 fa fd [("script" : Str)] (spOf S 1 f_law) :=
  fn_mk (N := N_law) (ps := [("script" : Str)]) (k := 7) (m := m_law) Fu s_law fun cdv A outer s H E hr =>
    (sss_cons (ss_asg (se_call (c__law_pot X) (sa_cons (se_var 0) sa_nil) (Nat.le_of_ble_eq_true rfl)) (sg_name 1))
    (sss_cons (ss_for (si_range1 (se_add se_int (SE.n (se_min2 (se_len (sn_var 0) (by exact X.z_len)) se_int (by exact X.z_min)))) (by exact X.z_range)) (sg_name 2) (sss_cons (ss_asg (se_call (c__law_game X) (sa_cons (se_var 1) (sa_cons (se_add se_int (SE.n (se_call (c__law_die X) (sa_cons (se_var 1) (sa_cons (se_sub_ (SB.se (sb_lst (sa_cons se_int (sa_cons se_int sa_nil)))) (SE.n (se_call (c__law_die X) (sa_cons (se_var 1) (sa_cons se_int sa_nil)) (Nat.le_of_ble_eq_true rfl)))) sa_nil)) (Nat.le_of_ble_eq_true rfl)))) (sa_cons (SB.se (sb_lst (sa_cons se_int sa_nil))) (sa_cons se_int sa_nil)))) (Nat.le_of_ble_eq_true rfl)) (sg_name 3))
    (sss_cons (ss_asg (se_tup (sa_cons (se_call (c__law_die X) (sa_cons (se_var 1) (sa_cons se_int sa_nil)) (Nat.le_of_ble_eq_true rfl)) (sa_cons (se_len (sn_var 3) (by exact X.z_len)) sa_nil))) (sg_tup (sgs_cons (sg_name 4) (sgs_cons (sg_name 5) sgs_nil))) (hw := by intro env he; cases env; cases he; rfl))
    (sss_cons (ss_asg (se_tuple (SE.n (SB.se (sb_sorted (SE.n (se_slice (se_call (c__law_mixed X) (sa_cons (se_var 1) (sa_cons (SB.se (sb_listR1 (se_var 5) (by exact X.z_list) (by exact X.z_range))) sa_nil)) (Nat.le_of_ble_eq_true rfl)) so_none (so_some (se_call (c__law_die X) (sa_cons (se_var 1) (sa_cons (se_add (se_var 5) (SE.n se_int)) sa_nil)) (Nat.le_of_ble_eq_true rfl))))) (by exact X.z_sorted)))) (by exact X.z_tuple)) (sg_name 6))
    (sss_cons (ss_asg (se_callK (k_forced_steps_goal_player_game X) (sk_cons (se_var 6) (sk_cons (se_var 4) (sk_cons (se_var 3) sk_nil))) (Nat.le_of_ble_eq_true rfl)) (sg_name 7))
    (sss_cons (ss_if (SW.t (sw_or (st_not (st_val (se_isi (T := "tuple") (se_var 7) (by exact X.z_isinstance) (by exact X.z_tuple) rfl))) (sw_one' (st_ne (se_len (sn_var 7) (by exact X.z_len)) (sn_var 5))))) (sss_one (ss_ret se_bl)) sss_nil)
    (sss_cons (ss_if (st_ne (SB.se (sb_lc (own := [(("v" : Str), 8)]) (si_range1 (se_var 5) (by exact X.z_range)) b_law_1 (sgw_name 8) (sts_one (st_not (st_val (se_call (c__law_entry_right X) (sa_cons (se_var 3) (sa_cons (se_var 4) (sa_cons (se_var 6) (sa_cons (se_var 7) (sa_cons (se_var 8) sa_nil))))) (Nat.le_of_ble_eq_true rfl))))) (se_var 8))) (SE.n (SB.se (sb_lst sa_nil)))) (sss_one (ss_ret se_bl)) sss_nil)
    (sss_cons (ss_asg (se_tuple (SE.n (SB.se (sb_sortedSet (SE.n (se_add (SB.se (sb_list (sn_var 6) (by exact X.z_list))) (SE.n (SB.se (sb_lst (sa_cons (se_call (c__law_die X) (sa_cons (se_var 1) (sa_cons (se_var 5) sa_nil)) (Nat.le_of_ble_eq_true rfl)) sa_nil)))))) (by exact X.z_sorted) (by exact X.z_set)))) (by exact X.z_tuple)) (sg_name 9))
    (sss_cons (ss_asg (se_call (c_forced_steps X) (sa_cons (se_var 3) (sa_cons (se_var 4) (sa_cons (se_var 9) sa_nil))) (Nat.le_of_ble_eq_true rfl)) (sg_name 10))
    (sss_cons (ss_for (si_range1 (se_var 5) (by exact X.z_range)) (sg_name 8) (sss_one (ss_if (SW.t (sw_and (st_isnot (se_sub_ (se_var 7) (sn_var 8)) (SE.n se_non)) (sw_one (SW.t (sw_or (st_is (se_sub_ (se_var 10) (sn_var 8)) (SE.n se_non)) (sw_one' (st_gt (se_sub_ (se_sub_ (se_var 10) (sn_var 8)) (SE.n se_int)) (SE.n (se_sub_ (se_sub_ (se_var 7) (sn_var 8)) (SE.n se_int)))))))))) (sss_one (ss_ret se_bl)) sss_nil)))
    (sss_cons (ss_asg (se_tuple (SE.n (SB.se (sb_lc (own := [(("v" : Str), 8)]) (si_range1 (se_var 5) (by exact X.z_range)) b_law_2 (sgw_name 8) (sts_one (st_isnot (se_sub_ (se_var 7) (sn_var 8)) (SE.n se_non))) (se_var 8)))) (by exact X.z_tuple)) (sg_name 11))
    (sss_cons (ss_asg (se_call (c_forced_steps X) (sa_cons (se_var 3) (sa_cons (se_var 4) (sa_cons (se_var 11) sa_nil))) (Nat.le_of_ble_eq_true rfl)) (sg_name 12))
    (sss_cons (ss_if (st_ne (se_tuple (SE.n (SB.se (sb_lc (own := [(("v" : Str), 8)]) (si_range1 (se_var 5) (by exact X.z_range)) b_law_3 (sgw_name 8) (sts_one (st_isnot (se_sub_ (se_var 12) (sn_var 8)) (SE.n se_non))) (se_var 8)))) (by exact X.z_tuple)) (sn_var 11)) (sss_one (ss_ret se_bl)) sss_nil)
    (sss_cons (ss_asg (se_call (c__law_one X) (sa_cons (se_var 1) (sa_cons (SB.se (sb_lst (sa_cons se_non (sa_cons (SB.se (sb_list (sn_var 6) (by exact X.z_list))) (sa_cons (se_add (se_var 6) (SE.n (se_tup (sa_cons (se_var 5) sa_nil)))) (sa_cons (se_tup (sa_cons se_int (sa_cons se_int sa_nil))) (sa_cons (se_tup (sa_cons se_bl sa_nil)) (sa_cons (se_tup (sa_cons (se_neg se_int) sa_nil)) (sa_cons se_str sa_nil))))))))) sa_nil)) (Nat.le_of_ble_eq_true rfl)) (sg_name 13))
    (sss_one (ss_if (SW.t (sw_or (st_ne (se_call (c__law_word X) (sa_cons (se_var 3) (sa_cons (se_var 4) (sa_cons (se_var 13) sa_nil))) (Nat.le_of_ble_eq_true rfl)) (SE.n se_str)) (sw_or (st_ne (se_call (c__law_word X) (sa_cons (se_var 3) (sa_cons se_int (sa_cons (se_var 13) sa_nil))) (Nat.le_of_ble_eq_true rfl)) (SE.n se_str)) (sw_one' (st_ne (se_call (c__law_word X) (sa_cons (se_var 3) (sa_cons se_bl (sa_cons (se_var 6) sa_nil))) (Nat.le_of_ble_eq_true rfl)) (SE.n se_str)))))) (sss_one (ss_ret se_bl)) sss_nil))))))))))))))))
    (sss_one (ss_ret se_bl))))

end M.K
namespace M.Att
open M
/-! ## attractors by rounds: the plain mathematics -/
abbrev Q := List (Nat × Nat)
variable (n : Nat) (nx : Nat → List Nat) (mine : Nat → Bool) (bf : Nat → List Nat) (goal : List Nat)
def step1 (sw v : Nat) (x : Q × Q) : Q × Q :=
  if (x.1.lookup v).isSome then x
  else if mine v then (x.1 ++ [(v, sw + 1)], x.2)
  else if 0 < (x.2.lookup v).getD (nx v).length - 1 then (x.1, put x.2 v ((x.2.lookup v).getD (nx v).length - 1))
  else (x.1 ++ [(v, sw + 1)], put x.2 v ((x.2.lookup v).getD (nx v).length - 1))
def turn (at_ : Nat) (x : Q × Q) : Q × Q := match x.1[at_]? with
  | some (w, sw) => (bf w).foldl (fun x v => step1 nx mine sw v x) x
  | none => x
/-- what is known of a position when the steps of P are done -/
structure Loc (P : List Nat) (q wt : Q) (v : Nat) : Prop where
  g : v ∈ goal → q.lookup v = some 0
  m : v ∉ goal → mine v = true → q.lookup v = ((P.find? fun w => decide (w ∈ nx v)).bind fun w => q.lookup w).map (· + 1)
  t : v ∉ goal → mine v = false → (((P.filter fun w => decide (w ∈ nx v)).length = (nx v).length ∧ q.lookup v = (((P.filter fun w => decide (w ∈ nx v)).getLast?).bind fun w => q.lookup w).map (· + 1)) ∨
    ((P.filter fun w => decide (w ∈ nx v)).length < (nx v).length ∧ q.lookup v = none ∧ wt.lookup v = if (P.filter fun w => decide (w ∈ nx v)).length = 0 then none else some ((nx v).length - (P.filter fun w => decide (w ∈ nx v)).length)))
structure Rg (q : Q) : Prop where
  nd : (q.map Prod.fst).Nodup
  lt : ∀ p ∈ q, p.1 < n
structure Mono (q : Q) (sw : Nat) : Prop where
  pw : q.Pairwise fun a b => a.2 ≤ b.2
  top : ∀ p ∈ q, p.2 ≤ sw + 1
variable {n nx mine bf goal}
theorem lookup_app {q r : Q} {v x : Nat} (h : q.lookup v = some x) : (q ++ r).lookup v = some x := by
  induction q with
  | nil => cases h
  | cons p q ih =>
    obtain ⟨a, y⟩ := p
    rw [List.cons_append, List.lookup_cons]
    rw [List.lookup_cons] at h
    split <;> simp_all
theorem lookup_appN {q : Q} {v u x : Nat} (h : q.lookup v = none) : (q ++ [(u, x)]).lookup v = if v = u then some x else none := by
  induction q with
  | nil =>
    show List.lookup v [(u, x)] = _
    rw [List.lookup_cons]
    by_cases e : v = u
    · subst e; simp
    · have : (v == u) = false := by simp; exact e
      rw [this, if_neg e]; rfl
  | cons p q ih =>
    obtain ⟨a, y⟩ := p
    rw [List.lookup_cons] at h
    rw [List.cons_append, List.lookup_cons]
    by_cases e : v = a
    · subst e; simp at h
    · have e2 : (v == a) = false := by simp; exact e
      rw [e2] at h ⊢
      exact ih h
theorem lookup_isSome {q : Q} {v : Nat} : (q.lookup v).isSome = true ↔ v ∈ q.map Prod.fst := by
  constructor
  · intro h
    refine Classical.not_not.mp fun k => ?_
    rw [lookup_none.mpr k] at h
    cases h
  · intro h
    cases e : q.lookup v with
    | none => exact absurd h (lookup_none.mp e)
    | some x => rfl
/-- what is known of others stays when a new one is put at the end -/
theorem Loc.app {P : List Nat} {q wt wt' : Q} {v u x : Nat} (h : Loc nx mine goal P q wt v) (hP : ∀ w ∈ P, (q.lookup w).isSome = true) (huv : v ≠ u) (hu : q.lookup u = none) (hw : wt'.lookup v = wt.lookup v) : Loc nx mine goal P (q ++ [(u, x)]) wt' v := by
  have lk : ∀ w, w ≠ u → (q ++ [(u, x)]).lookup w = q.lookup w := fun w hwu => by
    cases e : q.lookup w with
    | none => rw [lookup_appN e, if_neg hwu]
    | some y => exact lookup_app e
  have lkP : ∀ w ∈ P, (q ++ [(u, x)]).lookup w = q.lookup w := fun w hw => lk w fun e => by
    subst e
    have := hP w hw
    rw [hu] at this
    cases this
  refine ⟨fun hg => by rw [lk v huv]; exact h.g hg, fun hg hm => ?_, fun hg hm => ?_⟩
  · rw [lk v huv, h.m hg hm]
    cases e : P.find? fun w => decide (w ∈ nx v) with
    | none => rfl
    | some w =>
      show (q.lookup w).map (· + 1) = ((q ++ [(u, x)]).lookup w).map (· + 1)
      rw [lkP w (List.mem_of_find?_eq_some e)]
  · rcases h.t hg hm with ⟨h1, h2⟩ | ⟨h1, h2, h3⟩
    · refine .inl ⟨h1, ?_⟩
      rw [lk v huv, h2]
      cases e : (P.filter fun w => decide (w ∈ nx v)).getLast? with
      | none => rfl
      | some w =>
        show (q.lookup w).map (· + 1) = ((q ++ [(u, x)]).lookup w).map (· + 1)
        rw [lkP w (List.mem_filter.mp (List.mem_of_getLast? e)).1]
    · exact .inr ⟨h1, by rw [lk v huv]; exact h2, by rw [hw]; exact h3⟩
theorem Loc.wt {P : List Nat} {q wt wt' : Q} {v : Nat} (h : Loc nx mine goal P q wt v) (hw : wt'.lookup v = wt.lookup v) : Loc nx mine goal P q wt' v :=
  ⟨h.g, h.m, fun hg hm => (h.t hg hm).imp id fun ⟨h1, h2, h3⟩ => ⟨h1, h2, by rw [hw]; exact h3⟩⟩
/-- w is no next of v: nothing new -/
theorem Loc.skip {P : List Nat} {q wt : Q} {v w : Nat} (h : Loc nx mine goal P q wt v) (hw : w ∉ nx v) : Loc nx mine goal (P ++ [w]) q wt v := by
  have e : (P ++ [w]).filter (fun w => decide (w ∈ nx v)) = P.filter fun w => decide (w ∈ nx v) := by
    rw [List.filter_append, List.filter_cons_of_neg (by simpa using hw), List.filter_nil, List.append_nil]
  refine ⟨h.g, fun hg hm => ?_, fun hg hm => by rw [e]; exact h.t hg hm⟩
  rw [h.m hg hm, List.find?_append]
  cases e2 : P.find? fun w => decide (w ∈ nx v) with
  | some u => rfl
  | none =>
    rw [Option.none_or, List.find?_cons_of_neg (by simpa using hw)]
    rfl
theorem cnt_lt {P : List Nat} {l : List Nat} {w : Nat} (hP : P.Nodup) (hw : w ∈ l) (hn : w ∉ P) : (P.filter fun w => decide (w ∈ l)).length < l.length := by
  have h : (w :: P.filter fun w => decide (w ∈ l)).Nodup := List.nodup_cons.mpr ⟨fun k => hn (List.mem_filter.mp k).1, hP.filter _⟩
  exact nodup_le h fun a ha => by
    rcases List.mem_cons.mp ha with rfl | ha
    · exact hw
    · exact of_decide_eq_true (List.mem_filter.mp ha).2
theorem step_loc {P : List Nat} {q wt : Q} {v w sw : Nat} (h : Loc nx mine goal P q wt v) (hP : P.Nodup) (hs : ∀ u ∈ P, (q.lookup u).isSome = true) (hw : w ∈ nx v) (hn : w ∉ P) (hq : q.lookup w = some sw) :
    Loc nx mine goal (P ++ [w]) (step1 nx mine sw v (q, wt)).1 (step1 nx mine sw v (q, wt)).2 v ∧
    (((step1 nx mine sw v (q, wt)).1 = q) ∨ (q.lookup v = none ∧ (step1 nx mine sw v (q, wt)).1 = q ++ [(v, sw + 1)])) ∧ (∀ u, u ≠ v → (step1 nx mine sw v (q, wt)).2.lookup u = wt.lookup u) := by
  have hc := cnt_lt hP hw hn
  have ef : (P ++ [w]).filter (fun w => decide (w ∈ nx v)) = (P.filter fun w => decide (w ∈ nx v)) ++ [w] := by
    rw [List.filter_append, List.filter_cons_of_pos (by simpa using hw), List.filter_nil]
  unfold step1
  by_cases h1 : (q.lookup v).isSome = true
  · rw [if_pos h1]
    refine ⟨⟨h.g, fun hg hm => ?_, fun hg hm => ?_⟩, .inl rfl, fun _ _ => rfl⟩
    · have e := h.m hg hm
      cases e2 : P.find? fun w => decide (w ∈ nx v) with
      | none => rw [e2] at e; rw [e] at h1; cases h1
      | some u =>
        rw [List.find?_append, e2]
        rw [e2] at e
        exact e
    · rcases h.t hg hm with ⟨k1, _⟩ | ⟨_, k2, _⟩
      · omega
      · rw [k2] at h1; cases h1
  · have h2 : q.lookup v = none := by
      cases e : q.lookup v with
      | none => rfl
      | some x => rw [e] at h1; exact absurd rfl h1
    rw [if_neg h1]
    have hng : v ∉ goal := fun k => by rw [h.g k] at h2; cases h2
    have hvw : w ≠ v := fun e => by subst e; rw [hq] at h2; cases h2
    have new : (q ++ [(v, sw + 1)]).lookup v = some (sw + 1) := by rw [lookup_appN h2, if_pos rfl]
    by_cases hm : mine v = true
    · rw [if_pos hm]
      refine ⟨⟨fun k => absurd k hng, fun _ _ => ?_, fun _ k => by rw [hm] at k; cases k⟩, .inr ⟨h2, rfl⟩, fun _ _ => rfl⟩
      have e := h.m hng hm
      rw [h2] at e
      have e2 : (P.find? fun w => decide (w ∈ nx v)) = none := by
        cases e2 : P.find? fun w => decide (w ∈ nx v) with
        | none => rfl
        | some u =>
          rw [e2] at e
          have := hs u (List.mem_of_find?_eq_some e2)
          cases e3 : q.lookup u with
          | none => rw [e3] at this; cases this
          | some y =>
            have e : none = (q.lookup u).map (· + 1) := e
            rw [e3] at e; cases e
      rw [List.find?_append, e2, Option.none_or, List.find?_cons_of_pos (by simpa using hw)]
      show (q ++ [(v, sw + 1)]).lookup v = ((q ++ [(v, sw + 1)]).lookup w).map (· + 1)
      rw [new, lookup_app hq]
      rfl
    · rw [if_neg hm]
      have hm : mine v = false := by cases e : mine v with
        | true => exact absurd e hm
        | false => rfl
      rcases h.t hng hm with ⟨k1, _⟩ | ⟨k1, _, k3⟩
      · omega
      · have eg : (wt.lookup v).getD (nx v).length = (nx v).length - (P.filter fun w => decide (w ∈ nx v)).length := by
          rw [k3]
          split
          · rename_i k; rw [k]; rfl
          · rfl
        simp only [eg]
        by_cases hx : 0 < (nx v).length - (P.filter fun w => decide (w ∈ nx v)).length - 1
        · rw [if_pos hx]
          refine ⟨⟨fun k => absurd k hng, fun _ k => (by rw [hm] at k; cases k), fun _ _ => .inr ⟨by rw [ef, List.length_append]; show _ + 1 < _; omega, h2, ?_⟩⟩, .inl rfl, fun u hu => by show (put _ _ _).lookup u = _; rw [put_lookup, if_neg hu]⟩
          show (put _ _ _).lookup v = _
          rw [put_lookup, if_pos rfl, ef, List.length_append, if_neg (by simp)]
          congr 1
        · rw [if_neg hx]
          refine ⟨⟨fun k => absurd k hng, fun _ k => (by rw [hm] at k; cases k), fun _ _ => .inl ⟨by rw [ef, List.length_append]; show _ + 1 = _; omega, ?_⟩⟩, .inr ⟨h2, rfl⟩, fun u hu => by show (put _ _ _).lookup u = _; rw [put_lookup, if_neg hu]⟩
          show (q ++ [(v, sw + 1)]).lookup v = _
          rw [ef, List.getLast?_append, new]
          show _ = ((q ++ [(v, sw + 1)]).lookup w).map (· + 1)
          rw [lookup_app hq]
          rfl
/-- within the turn of w: bs are the positions that are still to come -/
structure InI (n : Nat) (nx : Nat → List Nat) (mine : Nat → Bool) (goal : List Nat) (P : List Nat) (w sw : Nat) (bs : List Nat) (x : Q × Q) : Prop where
  rg : Rg n x.1
  mono : Mono x.1 sw
  nw : (x.2.map Prod.fst).Nodup
  wl : ∀ p ∈ x.2, p.1 < n
  lw : x.1.lookup w = some sw
  hs : ∀ u ∈ P, (x.1.lookup u).isSome = true
  old : ∀ v, v < n → v ∈ bs → Loc nx mine goal P x.1 x.2 v
  new : ∀ v, v < n → v ∉ bs → Loc nx mine goal (P ++ [w]) x.1 x.2 v
theorem put_nodup {q : Q} {v x : Nat} (h : (q.map Prod.fst).Nodup) : ((put q v x).map Prod.fst).Nodup := by
  rw [put_fst]
  split
  · exact h
  · rename_i k
    rw [List.nodup_append]
    refine ⟨h, by simp, fun a ha b hb e => ?_⟩
    have : b = v := by simpa using hb
    subst this; subst e
    exact k ha
theorem put_mem {q : Q} {v x : Nat} {p : Nat × Nat} (h : p ∈ put q v x) : p.1 = v ∨ p ∈ q := by
  induction q with
  | nil =>
    have : p = (v, x) := by simpa [put] using h
    rw [this]; exact .inl rfl
  | cons a q ih =>
    have h : p ∈ (if a.1 = v then (v, x) :: q else a :: put q v x) := h
    split at h
    · rcases List.mem_cons.mp h with h | h
      · rw [h]; exact .inl rfl
      · exact .inr (List.mem_cons_of_mem _ h)
    · rcases List.mem_cons.mp h with h | h
      · rw [h]; exact .inr (by simp)
      · exact (ih h).imp id (List.mem_cons_of_mem _)
theorem put_put (q : Q) (v a b : Nat) : put (put q v a) v b = put q v b := by
  induction q with
  | nil => simp [put]
  | cons p q ih =>
    show put (if p.1 = v then (v, a) :: q else p :: put q v a) v b = if p.1 = v then (v, b) :: q else p :: put q v b
    by_cases e : p.1 = v
    · rw [if_pos e, if_pos e]; simp [put]
    · rw [if_neg e, if_neg e]
      show (if p.1 = v then (v, b) :: put q v a else p :: put (put q v a) v b) = _
      rw [if_neg e, ih]
theorem Loc.cpos {P : List Nat} {q wt : Q} {v w : Nat} (h : Loc nx mine goal P q wt v) (hP : P.Nodup) (hw : w ∈ nx v) (hn : w ∉ P) (hq : q.lookup v = none) (hm : mine v = false) : 1 ≤ (wt.lookup v).getD (nx v).length := by
  have hc := cnt_lt hP hw hn
  have hng : v ∉ goal := fun k => by rw [h.g k] at hq; cases hq
  rcases h.t hng hm with ⟨k1, _⟩ | ⟨k1, _, k3⟩
  · omega
  · rw [k3]
    split
    · show 1 ≤ (nx v).length
      omega
    · show 1 ≤ (nx v).length - _
      omega
theorem InI.step {P : List Nat} {w sw v : Nat} {bs : List Nat} {x : Q × Q} (h : InI n nx mine goal P w sw (v :: bs) x) (hP : P.Nodup) (hn : w ∉ P) (hv : v < n) (hw : w ∈ nx v) (hb : v ∉ bs) :
    InI n nx mine goal P w sw bs (step1 nx mine sw v x) ∧ ∃ r, (step1 nx mine sw v x).1 = x.1 ++ r := by
  obtain ⟨q, wt⟩ := x
  obtain ⟨s1, s2, s3⟩ := step_loc (h.old v hv (by simp)) hP h.hs hw hn h.lw
  have nw : (((step1 nx mine sw v (q, wt)).2).map Prod.fst).Nodup := by
    unfold step1
    split
    · exact h.nw
    · split
      · exact h.nw
      · split
        · exact put_nodup h.nw
        · exact put_nodup h.nw
  have wl : ∀ p ∈ (step1 nx mine sw v (q, wt)).2, p.1 < n := by
    have pm : ∀ y, ∀ p ∈ put wt v y, p.1 < n := fun y p hp => (put_mem hp).elim (fun e => by rw [e]; exact hv) (h.wl p)
    unfold step1
    split
    · exact h.wl
    · split
      · exact h.wl
      · split
        · exact pm _
        · exact pm _
  have hs2 : ∀ u ∈ P ++ [w], (q.lookup u).isSome = true := fun u hu => by
    rcases List.mem_append.mp hu with hu | hu
    · exact h.hs u hu
    · have : u = w := by simpa using hu
      subst this
      rw [h.lw]; rfl
  rcases s2 with s2 | ⟨s0, s2⟩
  · refine ⟨⟨by rw [s2]; exact h.rg, by rw [s2]; exact h.mono, nw, wl, by rw [s2]; exact h.lw, by rw [s2]; exact h.hs, fun u hu hb' => ?_, fun u hu hb' => ?_⟩, [], by rw [s2, List.append_nil]⟩
    · rw [s2]
      exact (h.old u hu (List.mem_cons_of_mem _ hb')).wt (s3 u fun e => hb (by rw [← e]; exact hb'))
    · by_cases e : u = v
      · subst e; exact s1
      · rw [s2]
        exact (h.new u hu fun k => (List.mem_cons.mp k).elim e hb').wt (s3 u e)
  · refine ⟨⟨?_, ?_, nw, wl, by rw [s2]; exact lookup_app h.lw, fun u hu => ?_, fun u hu hb' => ?_, fun u hu hb' => ?_⟩, [(v, sw + 1)], s2⟩
    · rw [s2]
      refine ⟨?_, fun p hp => ?_⟩
      · rw [List.map_append, List.nodup_append]
        refine ⟨h.rg.nd, by simp, fun a ha b hb e => ?_⟩
        have hb : b = v := by simpa using hb
        subst hb; subst e
        exact lookup_none.mp s0 ha
      · rcases List.mem_append.mp hp with hp | hp
        · exact h.rg.lt p hp
        · have : p = (v, sw + 1) := by simpa using hp
          rw [this]; exact hv
    · rw [s2]
      refine ⟨?_, fun p hp => ?_⟩
      · rw [List.pairwise_append]
        refine ⟨h.mono.pw, by simp, fun a ha b hb => ?_⟩
        have : b = (v, sw + 1) := by simpa using hb
        rw [this]; exact h.mono.top a ha
      · rcases List.mem_append.mp hp with hp | hp
        · exact h.mono.top p hp
        · have : p = (v, sw + 1) := by simpa using hp
          rw [this]; exact Nat.le_refl _
    · rw [s2]
      cases e : q.lookup u with
      | none =>
        have : (q.lookup u).isSome = true := h.hs u hu
        rw [e] at this; cases this
      | some y =>
        show ((q ++ [(v, sw + 1)]).lookup u).isSome = true
        rw [lookup_app e]; rfl
    · rw [s2]
      have e : u ≠ v := fun e => hb (by rw [← e]; exact hb')
      exact (h.old u hu (List.mem_cons_of_mem _ hb')).app h.hs e s0 (s3 u e)
    · by_cases e : u = v
      · subst e; exact s1
      · rw [s2]
        exact (h.new u hu fun k => (List.mem_cons.mp k).elim e hb').app hs2 e s0 (s3 u e)
/-- between the turns -/
structure OutI (n : Nat) (nx : Nat → List Nat) (mine : Nat → Bool) (goal : List Nat) (k : Nat) (x : Q × Q) : Prop where
  rg : Rg n x.1
  nw : (x.2.map Prod.fst).Nodup
  wl : ∀ p ∈ x.2, p.1 < n
  loc : ∀ v, v < n → Loc nx mine goal ((x.1.take k).map Prod.fst) x.1 x.2 v
  pw : x.1.Pairwise fun a b => a.2 ≤ b.2
  top : ∀ w sw, x.1[k]? = some (w, sw) → ∀ p ∈ x.1, p.2 ≤ sw + 1
  le : k ≤ x.1.length
theorem lookup_of_mem {q : Q} (hn : (q.map Prod.fst).Nodup) : ∀ {v x : Nat}, (v, x) ∈ q → q.lookup v = some x := by
  intro v x h
  cases e : q.lookup v with
  | none => exact absurd (List.mem_map_of_mem (f := Prod.fst) h) (lookup_none.mp e)
  | some y =>
    have hm := lookup_mem e
    have : (v, y) = (v, x) := by
      have hp : q.Pairwise fun a b => a.1 ≠ b.1 := by
        have := List.pairwise_map.mp hn
        exact this
      refine Classical.byContradiction fun hne => ?_
      obtain ⟨i, hi, ei⟩ := List.getElem_of_mem hm
      obtain ⟨j, hj, ej⟩ := List.getElem_of_mem h
      rcases Nat.lt_trichotomy i j with hl | hl | hl
      · have := List.pairwise_iff_getElem.mp hp i j hi hj hl
        rw [ei, ej] at this
        exact this rfl
      · subst hl
        rw [ei] at ej
        exact hne ej
      · have := List.pairwise_iff_getElem.mp hp j i hj hi hl
        rw [ei, ej] at this
        exact this rfl
    rw [(Prod.mk.inj this).2]
theorem OutI.start {k w sw : Nat} {x : Q × Q} (h : OutI n nx mine goal k x) (hw : x.1[k]? = some (w, sw)) {bs : List Nat} (hb : ∀ v, v ∈ bs ↔ v < n ∧ w ∈ nx v) :
    InI n nx mine goal ((x.1.take k).map Prod.fst) w sw bs x ∧ ((x.1.take k).map Prod.fst).Nodup ∧ w ∉ (x.1.take k).map Prod.fst := by
  obtain ⟨hk, ek⟩ := List.getElem?_eq_some_iff.mp hw
  have sp : x.1 = x.1.take k ++ (w, sw) :: x.1.drop (k + 1) := by
    have := (List.take_append_drop k x.1).symm
    rw [List.drop_eq_getElem_cons hk, ek] at this
    exact this
  have nd := h.rg.nd
  rw [sp, List.map_append, List.map_cons, List.nodup_append] at nd
  have hn : w ∉ (x.1.take k).map Prod.fst := fun m => nd.2.2 w m w (by simp) rfl
  refine ⟨⟨h.rg, ⟨h.pw, h.top w sw hw⟩, h.nw, h.wl, lookup_of_mem h.rg.nd (List.mem_of_getElem? hw), fun u hu => ?_, fun v hv _ => h.loc v hv, fun v hv hvb => (h.loc v hv).skip fun m => hvb ((hb v).mpr ⟨hv, m⟩)⟩, nd.1, hn⟩
  refine lookup_isSome.mpr ?_
  obtain ⟨p, hp, e⟩ := List.mem_map.mp hu
  exact List.mem_map.mpr ⟨p, List.mem_of_mem_take hp, e⟩
theorem OutI.next {k w sw : Nat} {x y : Q × Q} {r : Q} (h : OutI n nx mine goal k x) (hw : x.1[k]? = some (w, sw)) (hy : InI n nx mine goal ((x.1.take k).map Prod.fst) w sw [] y) (hr : y.1 = x.1 ++ r) : OutI n nx mine goal (k + 1) y := by
  obtain ⟨hk, ek⟩ := List.getElem?_eq_some_iff.mp hw
  have et : (y.1.take (k + 1)).map Prod.fst = (x.1.take k).map Prod.fst ++ [w] := by
    rw [hr, List.take_append_of_le_length (by omega), List.take_succ_eq_append_getElem hk, ek, List.map_append]
    rfl
  refine ⟨hy.rg, hy.nw, hy.wl, fun v hv => by rw [et]; exact hy.new v hv (by simp), hy.mono.pw, fun w' sw' hw' p hp => ?_, by rw [hr, List.length_append]; omega⟩
  have h1 := hy.mono.top p hp
  have h2 : sw ≤ sw' := by
    obtain ⟨hk', ek'⟩ := List.getElem?_eq_some_iff.mp hw'
    have hk2 : k < y.1.length := by omega
    have := List.pairwise_iff_getElem.mp hy.mono.pw k (k + 1) hk2 hk' (by omega)
    rw [ek'] at this
    have e : y.1[k] = (w, sw) := by
      have : y.1[k]? = some (w, sw) := by rw [hr, List.getElem?_append_left hk]; exact hw
      exact (List.getElem?_eq_some_iff.mp this).2
    rw [e] at this
    exact this
  omega
theorem OutI.zero (hg : goal.Nodup) (hl : ∀ v ∈ goal, v < n) (hnx : ∀ v, v < n → nx v ≠ []) : OutI n nx mine goal 0 (goal.map fun v => (v, 0), []) := by
  have lk : ∀ v, v ∈ goal → (goal.map fun v => (v, 0)).lookup v = some 0 := fun v hv => by
    refine lookup_of_mem ?_ (List.mem_map.mpr ⟨v, hv, rfl⟩)
    rw [List.map_map]
    show (goal.map id).Nodup
    rw [List.map_id]; exact hg
  have lk2 : ∀ v, v ∉ goal → (goal.map fun v => (v, 0)).lookup v = none := fun v hv => lookup_none.mpr fun k => hv (by
    rw [List.map_map] at k
    have k : v ∈ goal.map id := k
    rw [List.map_id] at k
    exact k)
  refine ⟨⟨?_, fun p hp => ?_⟩, by simp, fun p hp => (by cases hp), fun v hv => ⟨fun k => lk v k, fun k _ => by rw [lk2 v k]; rfl, fun k _ => .inr ⟨?_, lk2 v k, rfl⟩⟩, ?_, fun w sw _ p hp => ?_, Nat.zero_le _⟩
  · show ((goal.map fun v => (v, 0)).map Prod.fst).Nodup
    rw [List.map_map]
    show (goal.map id).Nodup
    rw [List.map_id]; exact hg
  · obtain ⟨v, hv, rfl⟩ := List.mem_map.mp hp
    exact hl v hv
  · show 0 < _
    exact List.length_pos_iff.mpr (hnx v hv)
  · show (goal.map fun v => (v, 0)).Pairwise _
    rw [List.pairwise_map]
    exact List.pairwise_of_forall fun _ _ => Nat.le_refl _
  · obtain ⟨v, hv, rfl⟩ := List.mem_map.mp hp
    exact Nat.zero_le _
/-- what the rounds find -/
structure Right (n : Nat) (nx : Nat → List Nat) (mine : Nat → Bool) (goal : List Nat) (q : Q) : Prop where
  g : ∀ v, v < n → v ∈ goal → q.lookup v = some 0
  m : ∀ v, v < n → v ∉ goal → mine v = true → ((∀ w ∈ nx v, q.lookup w = none) ∧ q.lookup v = none) ∨
    ∃ w ∈ nx v, ∃ k, q.lookup w = some k ∧ q.lookup v = some (k + 1) ∧ ∀ u ∈ nx v, ∀ k', q.lookup u = some k' → k ≤ k'
  t : ∀ v, v < n → v ∉ goal → mine v = false → ((∃ w ∈ nx v, q.lookup w = none) ∧ q.lookup v = none) ∨
    ((∀ w ∈ nx v, ∃ k, q.lookup w = some k) ∧ ∃ w ∈ nx v, ∃ k, q.lookup w = some k ∧ q.lookup v = some (k + 1) ∧ ∀ u ∈ nx v, ∀ k', q.lookup u = some k' → k' ≤ k)
theorem OutI.right {x : Q × Q} (h : OutI n nx mine goal x.1.length x) (hnd : ∀ v, v < n → (nx v).Nodup) (hne : ∀ v, v < n → nx v ≠ []) : Right n nx mine goal x.1 := by
  have nd := h.rg.nd
  refine ⟨fun v hv hg => (h.loc v hv).g hg, fun v hv hg hm => ?_, fun v hv hg hm => ?_⟩
  · have e := (h.loc v hv).m hg hm
    rw [List.take_length, List.find?_map] at e
    cases e2 : x.1.find? ((fun w => decide (w ∈ nx v)) ∘ Prod.fst) with
    | none =>
      rw [e2] at e
      refine .inl ⟨fun w hw => lookup_none.mpr fun k => ?_, e⟩
      obtain ⟨p, hp, rfl⟩ := List.mem_map.mp k
      have := List.find?_eq_none.mp e2 p hp
      exact this (decide_eq_true hw)
    | some p =>
      rw [e2] at e
      obtain ⟨h1, as, bs, h2, h3⟩ := List.find?_eq_some_iff_append.mp e2
      have hp : p ∈ x.1 := by rw [h2]; simp
      have hpl : x.1.lookup p.1 = some p.2 := lookup_of_mem nd hp
      have e : x.1.lookup v = (x.1.lookup p.1).map (· + 1) := e
      rw [hpl] at e
      refine .inr ⟨p.1, of_decide_eq_true h1, p.2, hpl, e, fun u hu k' hk' => ?_⟩
      have hm' := lookup_mem hk'
      rw [h2] at hm'
      have pw := h.pw
      rw [h2, List.pairwise_append] at pw
      rcases List.mem_append.mp hm' with hm' | hm'
      · have hc := h3 _ hm'
        have : decide (u ∈ nx v) = true := decide_eq_true hu
        simp [this] at hc
      · rcases List.mem_cons.mp hm' with hm' | hm'
        · rw [← hm']; exact Nat.le_refl _
        · exact (List.pairwise_cons.mp pw.2.1).1 _ hm'
  · have ef : (x.1.map Prod.fst).filter (fun w => decide (w ∈ nx v)) = (x.1.filter fun p => decide (p.1 ∈ nx v)).map Prod.fst := by
      rw [List.filter_map]; rfl
    rcases (h.loc v hv).t hg hm with ⟨h1, h2⟩ | ⟨h1, h2, _⟩
    · rw [List.take_length, ef] at h1 h2
      have all : ∀ w ∈ nx v, w ∈ (x.1.filter fun p => decide (p.1 ∈ nx v)).map Prod.fst := fun w hw => by
        refine Classical.byContradiction fun hc => ?_
        have : (w :: (x.1.filter fun p => decide (p.1 ∈ nx v)).map Prod.fst).Nodup := List.nodup_cons.mpr ⟨hc, by rw [← ef]; exact nd.filter _⟩
        have := nodup_le this (ys := nx v) fun a ha => by
          rcases List.mem_cons.mp ha with rfl | ha
          · exact hw
          · obtain ⟨p, hp, rfl⟩ := List.mem_map.mp ha
            exact of_decide_eq_true (List.mem_filter.mp hp).2
        rw [List.length_cons] at this
        omega
      have have_ : ∀ w ∈ nx v, ∃ k, x.1.lookup w = some k := fun w hw => by
        obtain ⟨p, hp, rfl⟩ := List.mem_map.mp (all w hw)
        exact ⟨p.2, lookup_of_mem nd (List.mem_filter.mp hp).1⟩
      rw [List.getLast?_map] at h2
      cases e2 : (x.1.filter fun p => decide (p.1 ∈ nx v)).getLast? with
      | none =>
        rw [List.getLast?_eq_none_iff] at e2
        obtain ⟨w, hw⟩ := List.exists_mem_of_ne_nil _ (hne v hv)
        have := all w hw
        rw [e2] at this
        cases this
      | some p =>
        rw [e2] at h2
        have hp := List.mem_filter.mp (List.mem_of_getLast? e2)
        have hpl : x.1.lookup p.1 = some p.2 := lookup_of_mem nd hp.1
        have e : x.1.lookup v = (x.1.lookup p.1).map (· + 1) := h2
        rw [hpl] at e
        refine .inr ⟨have_, p.1, of_decide_eq_true hp.2, p.2, hpl, e, fun u hu k' hk' => ?_⟩
        have hm' : (u, k') ∈ x.1.filter fun p => decide (p.1 ∈ nx v) := List.mem_filter.mpr ⟨lookup_mem hk', decide_eq_true hu⟩
        have pw := h.pw.filter fun p => decide (p.1 ∈ nx v)
        obtain ⟨ys, hys⟩ := List.getLast?_eq_some_iff.mp e2
        rw [hys] at hm' pw
        rw [List.pairwise_append] at pw
        rcases List.mem_append.mp hm' with hm' | hm'
        · exact pw.2.2 _ hm' _ (by simp)
        · have : (u, k') = p := by simpa using hm'
          rw [← this]; exact Nat.le_refl _
    · rw [List.take_length, ef] at h1
      refine .inl ⟨?_, h2⟩
      refine Classical.byContradiction fun hc => ?_
      have all : ∀ w ∈ nx v, w ∈ (x.1.filter fun p => decide (p.1 ∈ nx v)).map Prod.fst := fun w hw => by
        cases e : x.1.lookup w with
        | none => exact absurd ⟨w, hw, e⟩ hc
        | some k => exact List.mem_map.mpr ⟨(w, k), List.mem_filter.mpr ⟨lookup_mem e, decide_eq_true hw⟩, rfl⟩
      have := nodup_le (hnd v hv) all
      omega
/-- a greater goal has no greater steps -/
theorem Right.mono {goal' : List Nat} {q q' : Q} (h : Right n nx mine goal q) (h' : Right n nx mine goal' q') (hr : ∀ v, v < n → ∀ w ∈ nx v, w < n) (hs : ∀ v ∈ goal, v ∈ goal') : ∀ (k v : Nat), v < n → q.lookup v = some k → ∃ k', k' ≤ k ∧ q'.lookup v = some k' := by
  intro k
  induction k using Nat.strongRecOn with
  | ind k ih =>
    intro v hv hk
    by_cases hg' : v ∈ goal'
    · exact ⟨0, Nat.zero_le _, h'.g v hv hg'⟩
    have hg : v ∉ goal := fun m => hg' (hs v m)
    cases hm : mine v with
    | true =>
      rcases h.m v hv hg hm with ⟨_, e⟩ | ⟨w, hw, k0, e1, e2, _⟩
      · rw [hk] at e; cases e
      · rw [hk] at e2; cases e2
        obtain ⟨k1, l1, e3⟩ := ih k0 (Nat.lt_succ_self _) w (hr v hv w hw) e1
        rcases h'.m v hv hg' hm with ⟨f, _⟩ | ⟨u, _, k2, _, f2, f3⟩
        · rw [f w hw] at e3; cases e3
        · exact ⟨k2 + 1, by have := f3 w hw k1 e3; omega, f2⟩
    | false =>
      rcases h.t v hv hg hm with ⟨_, e⟩ | ⟨all, w, hw, k0, e1, e2, e3⟩
      · rw [hk] at e; cases e
      · rw [hk] at e2; cases e2
        have hall : ∀ u ∈ nx v, ∃ k', k' ≤ k0 ∧ q'.lookup u = some k' := fun u hu => by
          obtain ⟨ku, eu⟩ := all u hu
          have lu := e3 u hu ku eu
          obtain ⟨k1, l1, e⟩ := ih ku (by omega) u (hr v hv u hu) eu
          exact ⟨k1, by omega, e⟩
        rcases h'.t v hv hg' hm with ⟨⟨u, hu, f⟩, _⟩ | ⟨_, u, hu, k2, f1, f2, _⟩
        · obtain ⟨k1, _, e⟩ := hall u hu
          rw [f] at e; cases e
        · obtain ⟨k1, l1, e⟩ := hall u hu
          rw [f1] at e; cases e
          exact ⟨k2 + 1, by omega, f2⟩
/-- what has steps, as the goal, has the same ones -/
theorem Right.again {goal' : List Nat} {q q' : Q} (h : Right n nx mine goal q) (h' : Right n nx mine goal' q') (hr : ∀ v, v < n → ∀ w ∈ nx v, w < n) (hs : ∀ v, v < n → (v ∈ goal' ↔ (q.lookup v).isSome = true)) :
    ∀ v, v < n → ((q'.lookup v).isSome = true ↔ v ∈ goal') := by
  have key : ∀ (k v : Nat), v < n → q'.lookup v = some k → v ∈ goal' := by
    intro k
    induction k using Nat.strongRecOn with
    | ind k ih =>
      intro v hv hk
      refine Classical.byContradiction fun hg' => ?_
      have hn : q.lookup v = none := by
        cases e : q.lookup v with
        | none => rfl
        | some x => exact absurd ((hs v hv).mpr (by rw [e]; rfl)) hg'
      have hg : v ∉ goal := fun m => by rw [h.g v hv m] at hn; cases hn
      cases hm : mine v with
      | true =>
        rcases h'.m v hv hg' hm with ⟨_, e⟩ | ⟨w, hw, k0, e1, e2, _⟩
        · rw [hk] at e; cases e
        · rw [hk] at e2; cases e2
          have := (hs w (hr v hv w hw)).mp (ih k0 (Nat.lt_succ_self _) w (hr v hv w hw) e1)
          rcases h.m v hv hg hm with ⟨f, _⟩ | ⟨_, _, _, _, f, _⟩
          · rw [f w hw] at this; cases this
          · rw [hn] at f; cases f
      | false =>
        rcases h'.t v hv hg' hm with ⟨_, e⟩ | ⟨all, w, hw, k0, e1, e2, e3⟩
        · rw [hk] at e; cases e
        · rw [hk] at e2; cases e2
          rcases h.t v hv hg hm with ⟨⟨u, hu, f⟩, _⟩ | ⟨_, _, _, _, _, f, _⟩
          · obtain ⟨ku, eu⟩ := all u hu
            have := (hs u (hr v hv u hu)).mp (ih ku (by have := e3 u hu ku eu; omega) u (hr v hv u hu) eu)
            rw [f] at this; cases this
          · rw [hn] at f; cases f
  intro v hv
  constructor
  · intro k
    cases e : q'.lookup v with
    | none => rw [e] at k; cases k
    | some x => exact key x v hv e
  · intro m
    rw [h'.g v hv m]; rfl
end M.Att
namespace M.K
open PySem L2 M
theorem is_int_int (i : Int) (s) : f_is_int [.int i] s = .ok (.bl true) s := rfl
theorem is_int_bl (b : Bool) (s) : f_is_int [.bl b] s = .ok (.bl false) s := rfl
theorem within_bl (b : Bool) (lo hi : Int) (s) : f_within [.bl b, .int lo, .int hi] s = .ok (.bl false) s := rfl
theorem within_int (i lo hi : Int) (s) : f_within [.int i, .int lo, .int hi] s = .ok (.bl (decide (lo ≤ i ∧ i ≤ hi))) s := by
  by_cases h1 : lo ≤ i
  · by_cases h2 : i ≤ hi
    · simp [f_within, m_within, mFun, mRet, mAndV, mCall, mBind, is_int_int, mVar, mPk, mCons, mPure, mFl, mChain, gLe, gI, mLift, h1, h2, pk, List.replicate]
    · simp [f_within, m_within, mFun, mRet, mAndV, mCall, mBind, is_int_int, mVar, mPk, mCons, mPure, mFl, mChain, gLe, gI, mLift, h1, h2, pk, List.replicate]
  · simp [f_within, m_within, mFun, mRet, mAndV, mCall, mBind, is_int_int, mVar, mPk, mCons, mPure, mFl, mChain, gLe, gI, mLift, h1, pk, List.replicate]
structure Row where
  o : Int
  m : Int
  nx : List Nat
def dNs (l : List Nat) : D := .tup (l.map nD)
def dRow (r : Row) : D := .tup [.int r.o, .int r.m, dNs r.nx]
def dG (g : List Row) : D := .tup (g.map dRow)
structure RowOk (n : Nat) (r : Row) : Prop where
  o : r.o = 0 ∨ r.o = 1
  m : r.m = 3
  ne : r.nx ≠ []
  nd : r.nx.Nodup
  lt : ∀ v ∈ r.nx, v < n
theorem RowOk.len {n : Nat} {r : Row} (h : RowOk n r) : r.nx.length ≤ n := by
  have := nodup_le (ys := List.range n) h.nd fun a ha => List.mem_range.mpr (h.lt a ha)
  rwa [List.length_range] at this
structure GOk (g : List Row) : Prop where
  pos : 1 ≤ g.length
  le : g.length ≤ 60
  row : ∀ r ∈ g, RowOk g.length r
theorem sl60 : 60 ≤ sizeLine := by decide
theorem small {n : Nat} (h : n ≤ 1000) : n ≤ sizeLine := Nat.le_trans h (by decide)
theorem toIs_n : ∀ l : List Nat, toIs (l.map nD) = some (l.map fun (v : Nat) => (v : Int))
  | [] => rfl
  | x :: l => by
    rw [List.map_cons]
    unfold toIs
    rw [toIs_n l]
    rfl
theorem toBs_all : ∀ l : List D, (∀ d ∈ l, d = .bl true) → ∃ bs, toBs l = some bs ∧ bs.all id = true
  | [], _ => ⟨[], rfl, rfl⟩
  | x :: l, h => by
    obtain ⟨bs, e1, e2⟩ := toBs_all l fun d hd => h d (List.mem_cons_of_mem _ hd)
    refine ⟨true :: bs, ?_, by simpa using e2⟩
    rw [h x (by simp)]
    unfold toBs
    rw [e1]
    rfl
theorem gAll_true {l : List D} (h : ∀ d ∈ l, d = .bl true) : gAll (.lst l) = some (.bl true) := by
  obtain ⟨bs, e1, e2⟩ := toBs_all l h
  show (toBs l).map _ = _
  rw [e1]
  show some (D.bl (bs.all id)) = _
  rw [e2]
theorem dd_of_nodup : ∀ {l : List Int}, l.Nodup → (dd l).length = l.length := fun {l} h => by
  refine Nat.le_antisymm (dd_le l) (nodup_le h fun a ha => mem_dd.mpr ha)
/-- the nexts of a row, each within -/
theorem all_within {z : Z} {l : List Nat} {n : Nat} {i j : Nat} {vs : List Nat} (hl : l.length ≤ sizeLine) (hlt : ∀ v ∈ l, v < n) (hj : j < z.e.length) (hij : i ≠ j) (hn : z.e[i]? = some (.v (.int (n : Int)))) (mi : Mi (List D)) (hmi : mi z = .ok (l.map nD) z) :
    mLc [j] mi (tgName j) (mPure true) (mCall 3 f_within (mCons (mVar j) (mCons (mPure (.int 0)) (mCons (mOp gSub (mVar i) (mPure (.int 1))) (mPure []))))) z = .ok (.ml (l.map fun _ => .bl true)) z := by
  have := lc_all (vs := [j]) (t := tgName j) (m := mCall 3 f_within (mCons (mVar j) (mCons (mPure (.int 0)) (mCons (mOp gSub (mVar i) (mPure (.int 1))) (mPure []))))) (fun _ => .bl true) hmi (by simpa using hl) fun d hd => by
    obtain ⟨v, hv, rfl⟩ := List.mem_map.mp hd
    refine ⟨_, rfl, ⟨((z.wipe [j]).e.set j (.v (nD v))), z.s⟩, ?_, ?_⟩
    · have g1 : ((z.wipe [j]).e.set j (.v (nD v)))[j]? = some (.v (nD v)) := List.getElem?_set_self (by show j < (wipeE z.e [j]).length; rw [wipeE_length]; exact hj)
      have g2 : ((z.wipe [j]).e.set j (.v (nD v)))[i]? = some (.v (.int (n : Int))) := by
        rw [List.getElem?_set_ne (Ne.symm hij)]
        show (wipeE z.e [j])[i]? = _
        rw [wipeE_get, if_neg (by simp; exact fun h => absurd h hij)]
        exact hn
      have e1 : mVar j ⟨((z.wipe [j]).e.set j (.v (nD v))), z.s⟩ = .ok (nD v) ⟨((z.wipe [j]).e.set j (.v (nD v))), z.s⟩ := by unfold mVar; simp only [g1]
      have e2 : mVar i ⟨((z.wipe [j]).e.set j (.v (nD v))), z.s⟩ = .ok (.int (n : Int)) ⟨((z.wipe [j]).e.set j (.v (nD v))), z.s⟩ := by unfold mVar; simp only [g2]
      have hv' := hlt v hv
      show mCall 3 f_within _ ⟨((z.wipe [j]).e.set j (.v (nD v))), z.s⟩ = _
      simp only [mCall, mBind, mCons, e1, e2, mPure, mOp, mLift, gSub, gI]
      rw [if_pos (show [nD v, D.int 0, D.int ((n : Int) - 1)].length = 3 from rfl), within_int, decide_eq_true (show (0 : Int) ≤ (v : Int) ∧ (v : Int) ≤ (n : Int) - 1 from by omega)]
    · show Z.mk _ _ = Z.mk _ _
      congr 1
      show ((wipeE z.e [j]).set j (.v (nD v))).set j .un = (z.e).set j .un
      show (((z.e).set j .un).set j (.v (nD v))).set j .un = _
      rw [List.set_set, List.set_set]
  rw [this, List.map_map]
  rfl
theorem gNe_ints {a b : Int} (h : a = b) : gNe (.int a) (.int b) = some (.bl false) := by rw [gNe_int]; simp [h]
theorem gEq_ints {a b : Int} (h : a = b) : gEq (.int a) (.int b) = some (.bl true) := by rw [gEq_int]; simp [h]
theorem gLe_t {a b : Int} (h : a ≤ b) : gLe (.int a) (.int b) = some (.bl true) := by show some (D.bl (decide (a ≤ b))) = _; rw [decide_eq_true h]
theorem gLt_f {a b : Int} (h : ¬ a < b) : gLt (.int a) (.int b) = some (.bl false) := by show some (D.bl (decide (a < b))) = _; rw [decide_eq_false h]
theorem gLt_t {a b : Int} (h : a < b) : gLt (.int a) (.int b) = some (.bl true) := by show some (D.bl (decide (a < b))) = _; rw [decide_eq_true h]
theorem gGt_f {a b : Int} (h : ¬ b < a) : gGt (.int a) (.int b) = some (.bl false) := by show some (D.bl (decide (b < a))) = _; rw [decide_eq_false h]
theorem gGt_t {a b : Int} (h : b < a) : gGt (.int a) (.int b) = some (.bl true) := by show some (D.bl (decide (b < a))) = _; rw [decide_eq_true h]
theorem gLen_Ns (l : List Nat) : gLen (dNs l) = some (.int (l.length : Int)) := by
  show some (D.int ((l.map nD).length : Int)) = _
  rw [List.length_map]
theorem gLen_G (g : List Row) : gLen (dG g) = some (.int (g.length : Int)) := by
  show some (D.int ((g.map dRow).length : Int)) = _
  rw [List.length_map]
theorem scan200 : 200 < scanBound := by decide
theorem gLenSet_ns {l : List Nat} (h : l.Nodup) (hl : l.length ≤ 100) : gLenSet (dNs l) = some (.int (l.length : Int)) := by
  show (toIs (l.map nD)).bind _ = _
  rw [toIs_n]
  show (if (l.map fun (v : Nat) => (v : Int)).length + 1 < scanBound then some (D.int (dd (l.map fun (v : Nat) => (v : Int))).length) else none) = _
  rw [if_pos (by rw [List.length_map]; have := scan200; omega), dd_of_nodup, List.length_map]
  exact List.pairwise_map.mpr (h.imp fun hab e => hab (by omega))
theorem within_t {i lo hi : Int} (s) (h : lo ≤ i ∧ i ≤ hi) : f_within [.int i, .int lo, .int hi] s = .ok (.bl true) s := by rw [within_int, decide_eq_true h]
theorem within_f {i lo hi : Int} (s) (h : ¬ (lo ≤ i ∧ i ≤ hi)) : f_within [.int i, .int lo, .int hi] s = .ok (.bl false) s := by rw [within_int, decide_eq_false h]
theorem is_position_ok {n : Nat} {r : Row} (h : RowOk n r) (hn : n ≤ 60) (s) : f_is_position [dRow r, .int (n : Int)] s = .ok (.bl true) s := by
  have hlen := h.len
  have hpos : 1 ≤ r.nx.length := List.length_pos_iff.mpr h.ne
  have aw := all_within (z := ⟨[.v (dRow r), .v (.int (n : Int)), .v (.int r.o), .v (.int r.m), .v (dNs r.nx), .un], s⟩) (l := r.nx) (n := n) (i := 1) (j := 5) (vs := [5]) (small (by omega)) h.lt (Nat.le_of_ble_eq_true rfl) (by decide) rfl (mItems (mVar 4)) rfl
  have ga : gAll (.lst (r.nx.map fun _ => D.bl true)) = some (.bl true) := gAll_true fun d hd => by obtain ⟨_, _, rfl⟩ := List.mem_map.mp hd; rfl
  refine f_rt (z1 := ⟨[.v (dRow r), .v (.int (n : Int)), .v (.int r.o), .v (.int r.m), .v (dNs r.nx), .un], s⟩) ?_
  refine r_seq (r_iteF (r_orF (r_notT (r_tru (r_un (r_var (by rfl)) (by rfl)))) (r_tru (r_op (r_un (r_pk (by rfl)) (by rfl)) (by rfl) (gNe_ints (by rfl))))) (by rfl)) ?_
  refine r_seq (r_asg (r_var (by rfl)) (by rfl)) ?_
  refine r_seq (r_iteF (r_orF (r_notT (r_tru (r_call (r_cons (r_var (by rfl)) (r_cons (by rfl) (r_cons (by rfl) (by rfl)))) (within_t _ (by rcases h.o with e | e <;> omega))))) (r_orF (r_notT (r_tru (r_call (r_cons (r_var (by rfl)) (by rfl)) (is_int_int _ _)))) (r_tru (r_op (r_var (by rfl)) (by rfl) (gLt_f (by have := h.m; omega)))))) (by rfl)) ?_
  refine r_seq (r_iteF (r_orF (r_notT (r_tru (r_un (r_var (by rfl)) (by rfl)))) (r_notT (r_tru (r_chain (by rfl) (r_un (r_pk (by rfl)) (gLen_Ns _)) (gLe_t (by omega)) (by rfl) (gLe_t (by omega)))))) (by rfl)) ?_
  exact r_ret (r_andVT (r_un (r_settle aw (by rfl)) ga) (r_op (r_un (r_pk (by rfl)) (gLenSet_ns h.nd (by omega))) (r_un (r_pk (by rfl)) (gLen_Ns _)) (gEq_ints (by rfl))))
theorem toIs_ints : ∀ l : List Int, toIs (l.map .int) = some l
  | [] => rfl
  | x :: l => by
    rw [List.map_cons]
    unfold toIs
    rw [toIs_ints l]
    rfl
theorem is_game_ok {g : List Row} (h : GOk g) (s) : f_is_game [dG g] s = .ok (.bl true) s := by
  have hp := h.pos
  have hl := h.le
  have loop : ∃ z', mForGo (tgName 1) (mIte (mNot (mTru (mCall 2 f_is_position (mCons (mVar 1) (mCons (mUn gLen (mPk 0)) (mPure [])))))) (mRet (mPure (.bl false))) (mFl .nx)) (g.map dRow) ⟨[.v (dG g), .un], s⟩ = .ok .nx z' ∧ ∃ b, z' = ⟨[.v (dG g), b], s⟩ := by
    have := for_inv (t := tgName 1) (b := mIte (mNot (mTru (mCall 2 f_is_position (mCons (mVar 1) (mCons (mUn gLen (mPk 0)) (mPure [])))))) (mRet (mPure (.bl false))) (mFl .nx)) (fun _ z => ∃ b, z = ⟨[.v (dG g), b], s⟩) (g.map dRow) 0 ⟨[.v (dG g), .un], s⟩ (fun j d hd z hz => ?_) ⟨.un, rfl⟩
    · exact this
    · obtain ⟨b, rfl⟩ := hz
      obtain ⟨r, hr, rfl⟩ := List.mem_map.mp (List.mem_of_getElem? hd)
      refine ⟨⟨[.v (dG g), .v (dRow r)], s⟩, rfl, .nx, ⟨[.v (dG g), .v (dRow r)], s⟩, ?_, .inl rfl, _, rfl⟩
      exact r_iteF (r_notT (r_tru (r_call (r_cons (r_var (by rfl)) (r_cons (r_un (r_pk (by rfl)) (gLen_G g)) (by rfl))) (is_position_ok (h.row r hr) hl s)))) (by rfl)
  obtain ⟨z', l1, b, rfl⟩ := loop
  have comp : mLc [1] (mItems (mVar 0)) (tgName 1) (mPure true) (mOp gSubs (mVar 1) (mPure (.int 1))) ⟨[.v (dG g), b], s⟩ = .ok (.ml ((g.map dRow).map fun d => match d with | .tup [_, m, _] => m | _ => .non)) ⟨[.v (dG g), b], s⟩ := by
    refine lc_all _ rfl (by rw [List.length_map]; exact small (by omega)) fun d hd => ?_
    obtain ⟨r, hr, rfl⟩ := List.mem_map.mp hd
    refine ⟨⟨[.v (dG g), .v (dRow r)], s⟩, rfl, ⟨[.v (dG g), .v (dRow r)], s⟩, ?_, rfl⟩
    exact r_op (r_var (by rfl)) (by rfl) gSubs_t1
  have e1 : ((g.map dRow).map fun d => match d with | .tup [_, m, _] => m | _ => .non) = (g.map Row.m).map .int := by
    rw [List.map_map, List.map_map]
    rfl
  rw [e1] at comp
  have h3 : (dd (g.map Row.m)).length ≤ 1 := nodup_le (ys := [3]) (dd_nodup _) fun a ha => by
    obtain ⟨r, hr, rfl⟩ := List.mem_map.mp (mem_dd.mp ha)
    simp [(h.row r hr).m]
  have ls : gLenSet (.lst ((g.map Row.m).map .int)) = some (.int ((dd (g.map Row.m)).length : Int)) := by
    show (toIs ((g.map Row.m).map .int)).bind _ = _
    rw [toIs_ints]
    show (if (g.map Row.m).length + 1 < scanBound then some (D.int (dd (g.map Row.m)).length) else none) = _
    rw [if_pos (by rw [List.length_map]; have := scan200; omega)]
  refine f_rt (z1 := ⟨[.v (dG g), b], s⟩) ?_
  refine r_seq (r_iteF (r_orF (r_notT (r_tru (r_un (r_var (by rfl)) (by rfl)))) (r_notT (r_tru (r_chain (by rfl) (r_un (r_pk (by rfl)) (gLen_G g)) (gLe_t (by omega)) (by rfl) (gLe_t (by omega)))))) (by rfl)) ?_
  refine r_seq (r_for (r_items (r_var (by rfl)) (by rfl)) l1) ?_
  exact r_ret (r_op (r_un (r_settle comp (by rfl)) ls) (by rfl) (gLe_t (by omega)))
theorem need_game_ok {g : List Row} (h : GOk g) (s) : f_need_game [dG g] s = .ok .non s := by
  refine f_nx (z1 := ⟨[.v (dG g)], s⟩) ?_
  exact r_iteF (r_notT (r_tru (r_call (r_cons (r_var (by rfl)) (by rfl)) (is_game_ok h s)))) (by rfl)
theorem need_player_ok {p : Int} (h : p = 0 ∨ p = 1) (s) : f_need_player [.int p] s = .ok .non s := by
  refine f_nx (z1 := ⟨[.v (.int p)], s⟩) ?_
  exact r_iteF (r_notT (r_tru (r_call (r_cons (r_var (by rfl)) (r_cons (by rfl) (r_cons (by rfl) (by rfl)))) (within_t (i := p) (lo := 0) (hi := 1) s (by rcases h with e | e <;> omega))))) (by rfl)
theorem need_player_2 (s) : f_need_player [.int 2] s = .ex "BadPlayer" s := by
  refine f_ex (z1 := ⟨[.v (.int 2)], s⟩) ?_
  exact r_iteT (r_notF (r_tru (r_call (r_cons (r_var (by rfl)) (r_cons (by rfl) (r_cons (by rfl) (by rfl)))) (within_f (i := 2) (lo := 0) (hi := 1) s (by omega))))) (by rfl)
theorem need_player_bl (b : Bool) (s) : f_need_player [.bl b] s = .ex "BadPlayer" s := by
  refine f_ex (z1 := ⟨[.v (.bl b)], s⟩) ?_
  exact r_iteT (r_notF (r_tru (r_call (r_cons (r_var (by rfl)) (r_cons (by rfl) (r_cons (by rfl) (by rfl)))) (within_bl b 0 1 s)))) (by rfl)
end M.K
namespace M.K
open PySem L2 M
/-- within(d, 0, n - 1) -/
def wv (n : Nat) : D → Bool
  | .int i => decide (0 ≤ i ∧ i ≤ (n : Int) - 1)
  | _ => false
def IB (d : D) : Prop := (∃ x, d = .int x) ∨ ∃ b, d = .bl b
theorem within_wv {d : D} (h : IB d) (n : Nat) (s) : f_within [d, .int 0, .int ((n : Int) - 1)] s = .ok (.bl (wv n d)) s := by
  rcases h with ⟨x, rfl⟩ | ⟨b, rfl⟩
  · rw [within_int]; rfl
  · rfl
theorem comp_within {z : Z} {ds : List D} {n : Nat} {i j : Nat} (hl : ds.length ≤ sizeLine) (hib : ∀ d ∈ ds, IB d) (hj : j < z.e.length) (hij : i ≠ j) (hn : z.e[i]? = some (.v (.int (n : Int)))) (mi : Mi (List D)) (hmi : mi z = .ok ds z) :
    mLc [j] mi (tgName j) (mPure true) (mCall 3 f_within (mCons (mVar j) (mCons (mPure (.int 0)) (mCons (mOp gSub (mVar i) (mPure (.int 1))) (mPure []))))) z = .ok (.ml (ds.map fun d => .bl (wv n d))) z := by
  refine lc_all (vs := [j]) (t := tgName j) (fun d => .bl (wv n d)) hmi hl fun d hd => ?_
  refine ⟨_, rfl, ⟨((z.wipe [j]).e.set j (.v d)), z.s⟩, ?_, ?_⟩
  · have g1 : ((z.wipe [j]).e.set j (.v d))[j]? = some (.v d) := List.getElem?_set_self (by show j < (wipeE z.e [j]).length; rw [wipeE_length]; exact hj)
    have g2 : ((z.wipe [j]).e.set j (.v d))[i]? = some (.v (.int (n : Int))) := by
      rw [List.getElem?_set_ne (Ne.symm hij)]
      show (wipeE z.e [j])[i]? = _
      rw [wipeE_get, if_neg (by simp; exact fun h => absurd h hij)]
      exact hn
    exact r_call (r_cons (r_var g1) (r_cons (by rfl) (r_cons (r_op (r_var g2) (by rfl) (by rfl)) (by rfl)))) (within_wv (hib d hd) n z.s)
  · show Z.mk _ _ = Z.mk _ _
    congr 1
    show (((z.e).set j .un).set j (.v d)).set j .un = (z.e).set j .un
    rw [List.set_set, List.set_set]
theorem toBs_map' : ∀ (l : List Bool), toBs (l.map .bl) = some l
  | [] => rfl
  | x :: l => by
    rw [List.map_cons]
    unfold toBs
    rw [toBs_map' l]
    rfl
theorem gAll_bl (l : List Bool) : gAll (.lst (l.map .bl)) = some (.bl (l.all id)) := by
  show (toBs (l.map .bl)).map _ = _
  rw [toBs_map' l]
  rfl
theorem gAll_f (ds : List D) (p : D → Bool) : gAll (.lst (ds.map fun d => .bl (p d))) = some (.bl (ds.all p)) := by
  have : (ds.map fun d => D.bl (p d)) = (ds.map p).map .bl := by rw [List.map_map]; rfl
  rw [this, gAll_bl, List.all_map]
  rfl
/-- a tuple of which one is no position -/
theorem asc_out {ds : List D} {n : Nat} (hl : ds.length ≤ sizeLine) (hib : ∀ d ∈ ds, IB d) (hf : ds.all (wv n) = false) (s) : f_are_ascending [.tup ds, .int (n : Int)] s = .ok (.bl false) s := by
  have c := comp_within (z := ⟨[.v (.tup ds), .v (.int (n : Int)), .un, .un], s⟩) (i := 1) (j := 2) hl hib (Nat.le_of_ble_eq_true rfl) (by decide) rfl (mItems (mVar 0)) rfl
  have ga := gAll_f ds (wv n)
  rw [hf] at ga
  refine f_rt (z1 := ⟨[.v (.tup ds), .v (.int (n : Int)), .un, .un], s⟩) ?_
  exact r_out (r_iteT (r_orF (r_notT (r_tru (r_un (r_var (by rfl)) (by rfl)))) (r_notF (r_tru (r_un (r_settle c (by rfl)) ga)))) (by rfl))
theorem asc_no {d : D} {n : Nat} (h : gIsi "tuple" d = some (.bl false)) (s) : f_are_ascending [d, .int (n : Int)] s = .ok (.bl false) s := by
  refine f_rt (z1 := ⟨[.v d, .v (.int (n : Int)), .un, .un], s⟩) ?_
  exact r_out (r_iteT (r_orT (r_notF (r_tru (r_un (r_var (by rfl)) h)))) (by rfl))
theorem asc_comp {ds : List D} {n : Nat} (xs : List Int) (he : ds = xs.map .int) (hl : xs.length ≤ 1000) (s) : mLc [3] (mRange1 (mOp gSub (mUn gLen (mPk 0)) (mPure (.int 1)))) (tgName 3) (mPure true) (mOp gLt (mOp gSubs (mVar 0) (mPk 3)) (mOp gSubs (mVar 0) (mOp gAdd (mVar 3) (mPure (.int 1))))) ⟨[.v (.tup ds), .v (.int (n : Int)), .un, .un], s⟩ =
    .ok (.ml (((List.range (xs.length - 1)).map fun k => decide ((xs[k]?).getD 0 < (xs[k + 1]?).getD 0)).map .bl)) ⟨[.v (.tup ds), .v (.int (n : Int)), .un, .un], s⟩ := by
  subst he
  have hr : mRange1 (mOp gSub (mUn gLen (mPk 0)) (mPure (.int 1))) ⟨[.v (.tup (xs.map .int)), .v (.int (n : Int)), .un, .un], s⟩ = .ok ((List.range (xs.length - 1)).map nD) ⟨[.v (.tup (xs.map .int)), .v (.int (n : Int)), .un, .un], s⟩ := by
    have hlen : gLen (.tup (xs.map .int)) = some (.int (xs.length : Int)) := by
      show some (D.int ((xs.map D.int).length : Int)) = _
      rw [List.length_map]
    have e : (mOp gSub (mUn gLen (mPk 0)) (mPure (.int 1))) ⟨[.v (.tup (xs.map .int)), .v (.int (n : Int)), .un, .un], s⟩ = .ok (.int ((xs.length : Int) - 1)) ⟨[.v (.tup (xs.map .int)), .v (.int (n : Int)), .un, .un], s⟩ := r_op (r_un (r_pk (by rfl)) hlen) (by rfl) (by rfl)
    cases hx : xs.length with
    | zero =>
      rw [hx] at e
      unfold mRange1 mBind
      simp only [e]
      rfl
    | succ m =>
      rw [hx] at e
      exact r_range (by rw [e]; congr 2; omega) (by omega)
  have := lc_all (vs := [3]) (t := tgName 3) (m := mOp gLt (mOp gSubs (mVar 0) (mPk 3)) (mOp gSubs (mVar 0) (mOp gAdd (mVar 3) (mPure (.int 1))))) (fun d => match d with | .int k => .bl (decide ((xs[k.toNat]?).getD 0 < (xs[k.toNat + 1]?).getD 0)) | _ => .non) hr (by rw [List.length_map, List.length_range]; exact small (by omega)) fun d hd => by
    obtain ⟨k, hk, rfl⟩ := List.mem_map.mp hd
    have hk := List.mem_range.mp hk
    refine ⟨⟨[.v (.tup (xs.map .int)), .v (.int (n : Int)), .un, .v (nD k)], s⟩, rfl, ⟨[.v (.tup (xs.map .int)), .v (.int (n : Int)), .un, .v (nD k)], s⟩, ?_, rfl⟩
    have e1 : gSubs (.tup (xs.map .int)) (nD k) = some (.int ((xs[k]?).getD 0)) := by
      rw [gSubs_tn, List.getElem?_map, List.getElem?_eq_getElem (by omega)]; rfl
    have e2 : gSubs (.tup (xs.map .int)) (.int ((k : Int) + 1)) = some (.int ((xs[k + 1]?).getD 0)) := by
      have := gSubs_tn (xs.map .int) (k + 1)
      rw [List.getElem?_map, List.getElem?_eq_getElem (by omega)] at this
      rw [List.getElem?_eq_getElem (by omega)]
      exact this
    exact r_op (r_op (r_var (by rfl)) (r_pk (by rfl)) e1) (r_op (r_var (by rfl)) (r_op (r_var (by rfl)) (by rfl) (by rfl)) e2) (by rfl)
  rw [this, List.map_map, List.map_map]
  rfl
theorem asc_in {ds : List D} {n : Nat} (xs : List Int) (he : ds = xs.map .int) (hl : xs.length ≤ 1000) (hw : ds.all (wv n) = true) {b : Bool} (hb : ((List.range (xs.length - 1)).map fun k => decide ((xs[k]?).getD 0 < (xs[k + 1]?).getD 0)).all id = b) (s) : f_are_ascending [.tup ds, .int (n : Int)] s = .ok (.bl b) s := by
  have c := comp_within (z := ⟨[.v (.tup ds), .v (.int (n : Int)), .un, .un], s⟩) (i := 1) (j := 2) (ds := ds) (n := n) (small (by rw [he, List.length_map]; exact hl)) (fun d hd => by rw [he] at hd; obtain ⟨x, _, rfl⟩ := List.mem_map.mp hd; exact .inl ⟨x, rfl⟩) (Nat.le_of_ble_eq_true rfl) (by decide) rfl (mItems (mVar 0)) rfl
  have ga := gAll_f ds (wv n)
  rw [hw] at ga
  have c2 := asc_comp (n := n) xs he hl s
  have ga2 := gAll_bl ((List.range (xs.length - 1)).map fun k => decide ((xs[k]?).getD 0 < (xs[k + 1]?).getD 0))
  rw [hb] at ga2
  refine f_rt (z1 := ⟨[.v (.tup ds), .v (.int (n : Int)), .un, .un], s⟩) ?_
  refine r_seq (r_iteF (r_orF (r_notT (r_tru (r_un (r_var (by rfl)) (by rfl)))) (r_notT (r_tru (r_un (r_settle c (by rfl)) ga)))) (by rfl)) ?_
  exact r_ret (r_un (r_settle c2 (by rfl)) ga2)
theorem wv_n {n v : Nat} (h : v < n) : wv n (nD v) = true := decide_eq_true (by omega)
/-- an ascending row of positions -/
theorem asc_ok {l : List Nat} {n : Nat} (hs : l.Pairwise (· < ·)) (hlt : ∀ v ∈ l, v < n) (hn : n ≤ 60) (s) : f_are_ascending [dNs l, .int (n : Int)] s = .ok (.bl true) s := by
  have hlen : l.length ≤ n := by
    have := nodup_le (xs := l) (ys := List.range n) (hs.imp fun h => by omega) fun a ha => List.mem_range.mpr (hlt a ha)
    rwa [List.length_range] at this
  refine asc_in (l.map fun (v : Nat) => (v : Int)) (by rw [List.map_map]; rfl) (by rw [List.length_map]; omega) ?_ ?_ s
  · rw [List.all_eq_true]
    intro d hd
    obtain ⟨v, hv, rfl⟩ := List.mem_map.mp hd
    exact wv_n (hlt v hv)
  · rw [List.all_eq_true]
    intro b hb
    obtain ⟨k, hk, rfl⟩ := List.mem_map.mp hb
    have hk := List.mem_range.mp hk
    rw [List.length_map] at hk
    have := List.pairwise_iff_getElem.mp hs k (k + 1) (by omega) (by omega) (by omega)
    simp only [List.getElem?_map, List.getElem?_eq_getElem (show k < l.length by omega), List.getElem?_eq_getElem (show k + 1 < l.length by omega), Option.map_some, Option.getD_some]
    exact decide_eq_true (by omega)
end M.K
namespace M.K
open PySem L2 M
/-! ## positions_before -/
theorem lcBGo_all {vs : List Nat} {t : D → Z → Option Z} {m : Mi B} {z0 : Z} (g : D → B) : ∀ (ds : List D) (acc : List B) (z : Z), z.wipe vs = z0 → (∀ d ∈ ds, ∃ z1, t d z0 = some z1 ∧ ∃ z3, m z1 = .ok (g d) z3 ∧ z3.wipe vs = z0) → acc.length + ds.length ≤ sizeLine →
    ∃ z', mLcBGo vs t (mPure true) m ds acc z = .ok (acc ++ ds.map g) z' ∧ z'.wipe vs = z0
  | [], acc, z, hz, _, _ => ⟨z, by simp [mLcBGo, mPure], hz⟩
  | d :: ds, acc, z, hz, h, hl => by
    obtain ⟨z1, e1, z3, e3, e4⟩ := h d (by simp)
    unfold mLcBGo
    simp only [hz, e1, mPure, e3]
    rw [if_pos (by simp at hl; omega)]
    obtain ⟨z', k1, k2⟩ := lcBGo_all g ds (acc ++ [g d]) z3 e4 (fun d' hd => h d' (List.mem_cons_of_mem _ hd)) (by simp at hl ⊢; omega)
    exact ⟨z', by rw [k1, List.map_cons, List.append_assoc]; rfl, k2⟩
theorem lcB_all {vs : List Nat} {mi : Mi (List D)} {t : D → Z → Option Z} {m : Mi B} {z zi : Z} {ds : List D} (g : D → B) (hi : mi z = .ok ds zi) (hl : ds.length ≤ sizeLine)
    (h : ∀ d ∈ ds, ∃ z1, t d (zi.wipe vs) = some z1 ∧ ∃ z3, m z1 = .ok (g d) z3 ∧ z3.wipe vs = zi.wipe vs) :
    mLcB vs mi t (mPure true) m z = .ok (.ms (ds.map g)) zi := by
  obtain ⟨z', k1, k2⟩ := lcBGo_all g ds [] zi rfl h (by simpa using hl)
  unfold mLcB mBind
  simp only [hi, k1, List.nil_append]
  have e1 : wipeE z'.e vs = wipeE zi.e vs := congrArg Z.e k2
  have e2 : (z'.wipe vs).s = (zi.wipe vs).s := congrArg Z.s k2
  have e2 : z'.s = zi.s := e2
  rw [back_wipe e1, e2]
def nxs (g : List Row) (v : Nat) : List Nat := ((g[v]?).map Row.nx).getD []
def bfs (g : List Row) (w : Nat) : List Nat := (List.range g.length).filter fun v => decide (w ∈ nxs g v)
theorem row_at {g : List Row} {v : Nat} (hv : v < g.length) : ∃ r, g[v]? = some r ∧ r ∈ g ∧ nxs g v = r.nx := by
  refine ⟨g[v], List.getElem?_eq_getElem hv, List.getElem_mem hv, ?_⟩
  unfold nxs
  rw [List.getElem?_eq_getElem hv]
  rfl
theorem gSubs_G {g : List Row} {v : Nat} {r : Row} (h : g[v]? = some r) : gSubs (dG g) (nD v) = some (dRow r) := by
  show gSubs (.tup (g.map dRow)) (.int (v : Int)) = _
  rw [gSubs_tn, List.getElem?_map, h]
  rfl
/-- the rows of positions ahead when those below v, and of v the nexts in done, are done -/
def bst (g : List Row) (v : Nat) (done : List Nat) : List B := (List.range g.length).map fun w => .ml ((((List.range v).filter fun u => decide (w ∈ nxs g u)) ++ if w ∈ done then [v] else []).map nD)
theorem bst_get {g : List Row} {v : Nat} {done : List Nat} {w : Nat} (hw : w < g.length) : (bst g v done)[w]? = some (.ml ((((List.range v).filter fun u => decide (w ∈ nxs g u)) ++ if w ∈ done then [v] else []).map nD)) := by
  unfold bst
  rw [List.getElem?_map, List.getElem?_range hw]
  rfl
theorem bst_set {g : List Row} {v : Nat} {done : List Nat} {w : Nat} (hw : w < g.length) (hn : w ∉ done) : (bst g v done).set w (.ml (((((List.range v).filter fun u => decide (w ∈ nxs g u)) ++ if w ∈ done then [v] else []).map nD) ++ [nD v])) = bst g v (done ++ [w]) := by
  refine List.ext_getElem? fun j => ?_
  by_cases hj : j < g.length
  · by_cases e : w = j
    · subst e
      rw [List.getElem?_set_self (by unfold bst; simpa using hw), bst_get hw, if_neg hn, if_pos (by simp), List.append_nil, List.map_append]
      rfl
    · rw [List.getElem?_set_ne e, bst_get hj, bst_get hj]
      have : j ∈ done ++ [w] ↔ j ∈ done := by
        rw [List.mem_append]
        exact ⟨fun h => h.elim id fun h => absurd (by simpa using h) (Ne.symm e), .inl⟩
      simp only [this]
  · rw [List.getElem?_eq_none (by rw [List.length_set]; unfold bst; simpa using hj), List.getElem?_eq_none (by unfold bst; simpa using hj)]
theorem bst_next {g : List Row} {v : Nat} (hv : v < g.length) : bst g v (nxs g v) = bst g (v + 1) [] := by
  unfold bst
  refine List.map_congr_left fun w _ => ?_
  rw [List.range_succ, List.filter_append, if_neg (by simp : w ∉ ([] : List Nat)), List.append_nil]
  congr 3
  by_cases h : w ∈ nxs g v
  · rw [if_pos h, List.filter_cons_of_pos (by simpa using h)]; rfl
  · rw [if_neg h, List.filter_cons_of_neg (by simpa using h)]; rfl
theorem fz_bst (g : List Row) (v : Nat) (done : List Nat) : fzB (.ms (bst g v done)) = some (.lst ((List.range g.length).map fun w => .lst ((((List.range v).filter fun u => decide (w ∈ nxs g u)) ++ if w ∈ done then [v] else []).map nD))) := by
  show (fzBs (bst g v done)).map D.lst = _
  have : ∀ l : List Nat, fzBs (l.map fun w => B.ml ((((List.range v).filter fun u => decide (w ∈ nxs g u)) ++ if w ∈ done then [v] else []).map nD)) = some (l.map fun w => D.lst ((((List.range v).filter fun u => decide (w ∈ nxs g u)) ++ if w ∈ done then [v] else []).map nD)) := fun l => by
    induction l with
    | nil => rfl
    | cons w l ih =>
      rw [List.map_cons, List.map_cons]
      show (match fzB (B.ml _), fzBs _ with
        | some d, some ds => some (d :: ds)
        | _, _ => none) = _
      rw [ih]
      rfl
  unfold bst
  rw [this]
  rfl
theorem before_ok {g : List Row} (h : GOk g) (s) : f_positions_before [dG g] s = .ok (.lst ((List.range g.length).map fun w => .lst ((bfs g w).map nD))) s := by
  have hl := h.le
  -- [[] for row in game]
  have c : mLcB [4] (mItems (mVar 0)) (tgName 4) (mPure true) (mLst (mPure [])) ⟨[.v (dG g), .un, .un, .un, .un], s⟩ = .ok (.ms (bst g 0 [])) ⟨[.v (dG g), .un, .un, .un, .un], s⟩ := by
    have := lcB_all (vs := [4]) (mi := mItems (mVar 0)) (t := tgName 4) (m := mLst (mPure [])) (z := ⟨[.v (dG g), .un, .un, .un, .un], s⟩) (zi := ⟨[.v (dG g), .un, .un, .un, .un], s⟩) (ds := g.map dRow) (fun _ => .ml []) rfl (by rw [List.length_map]; exact small (by omega)) fun d hd => ⟨_, rfl, _, rfl, rfl⟩
    rw [this]
    congr 2
    unfold bst
    rw [List.map_map]
    refine List.ext_getElem? fun j => ?_
    rw [List.getElem?_map, List.getElem?_map]
    by_cases hj : j < g.length
    · rw [List.getElem?_eq_getElem hj, List.getElem?_range hj]; rfl
    · rw [List.getElem?_eq_none (by omega), List.getElem?_eq_none (by simpa using hj)]; rfl
  have loop : ∃ z', mForGo (tgName 2) (mFor (mItems (mOp gSubs (mOp gSubs (mVar 0) (mPk 2)) (mPure (.int 2)))) (tgName 3) (mDrop (mAppAt 1 (mVar 3) (mVar 2)))) ((List.range g.length).map nD) ⟨[.v (dG g), .ms (bst g 0 []), .un, .un, .un], s⟩ = .ok .nx z' ∧ ∃ b2 b3, z' = ⟨[.v (dG g), .ms (bst g g.length []), b2, b3, .un], s⟩ := by
    have := for_inv (t := tgName 2) (b := mFor (mItems (mOp gSubs (mOp gSubs (mVar 0) (mPk 2)) (mPure (.int 2)))) (tgName 3) (mDrop (mAppAt 1 (mVar 3) (mVar 2)))) (fun j z => ∃ b2 b3, z = ⟨[.v (dG g), .ms (bst g j []), b2, b3, .un], s⟩) ((List.range g.length).map nD) 0 ⟨[.v (dG g), .ms (bst g 0 []), .un, .un, .un], s⟩ (fun v d hd z hz => ?_) ⟨_, _, rfl⟩
    · rw [List.length_map, List.length_range, Nat.zero_add] at this
      exact this
    · rw [Nat.zero_add] at hz ⊢
      obtain ⟨b2, b3, rfl⟩ := hz
      rw [List.getElem?_map] at hd
      obtain ⟨v', hv', rfl⟩ := Option.map_eq_some_iff.mp hd
      obtain ⟨hvl, ev⟩ := List.getElem?_eq_some_iff.mp hv'
      rw [List.getElem_range] at ev
      subst ev
      rw [List.length_range] at hvl
      obtain ⟨r, hr, hrm, hnx⟩ := row_at hvl
      have rok := h.row r hrm
      have inner := for_inv (t := tgName 3) (b := mDrop (mAppAt 1 (mVar 3) (mVar 2))) (fun j z => ∃ b3, z = ⟨[.v (dG g), .ms (bst g v (r.nx.take j)), .v (nD v), b3, .un], s⟩) (r.nx.map nD) 0 ⟨[.v (dG g), .ms (bst g v []), .v (nD v), b3, .un], s⟩ (fun j d hd z hz => ?_) ⟨b3, rfl⟩
      · obtain ⟨z2, i1, b3', i2⟩ := inner
        subst i2
        rw [List.length_map, Nat.zero_add, List.take_length, ← hnx, bst_next hvl, hnx] at i1
        refine ⟨⟨[.v (dG g), .ms (bst g v []), .v (nD v), b3, .un], s⟩, rfl, .nx, ⟨[.v (dG g), .ms (bst g (v + 1) []), .v (nD v), b3', .un], s⟩, ?_, .inl rfl, _, _, rfl⟩
        exact r_for (r_items (r_op (r_op (r_var (by rfl)) (r_pk (by rfl)) (gSubs_G hr)) (by rfl) gSubs_t2) (by rfl)) i1
      · rw [Nat.zero_add] at hz ⊢
        obtain ⟨b3', rfl⟩ := hz
        rw [List.getElem?_map] at hd
        obtain ⟨w, hw, rfl⟩ := Option.map_eq_some_iff.mp hd
        obtain ⟨hj, ew⟩ := List.getElem?_eq_some_iff.mp hw
        have hwl : w < g.length := rok.lt w (by rw [← ew]; exact List.getElem_mem hj)
        have hnd : w ∉ r.nx.take j := fun m => by
          obtain ⟨i, hi, e⟩ := List.getElem_of_mem m
          rw [List.getElem_take] at e
          have hi' : i < j := by have := hi; rw [List.length_take] at this; omega
          exact absurd (e.trans ew.symm) (List.pairwise_iff_getElem.mp rok.nd i j (by omega) hj hi')
        have et : r.nx.take (j + 1) = r.nx.take j ++ [w] := by rw [List.take_succ_eq_append_getElem hj, ew]
        refine ⟨⟨[.v (dG g), .ms (bst g v (r.nx.take j)), .v (nD v), .v (nD w), .un], s⟩, rfl, .nx, ⟨[.v (dG g), .ms (bst g v (r.nx.take (j + 1))), .v (nD v), .v (nD w), .un], s⟩, ?_, .inl rfl, _, rfl⟩
        refine r_drop (d := .non) ?_
        have hb := bst_get (g := g) (v := v) (done := r.nx.take j) hwl
        have hlb : (bst g v (r.nx.take j)).length = g.length := by unfold bst; simp
        have hix : ixN (bst g v (r.nx.take j)).length (w : Int) = some w := ixN_n (by rw [hlb]; exact hwl)
        have hsz : ((((List.range v).filter fun u => decide (w ∈ nxs g u)) ++ if w ∈ r.nx.take j then [v] else []).map nD).length < sizeLine := by
          rw [List.length_map, List.length_append]
          have h1 : ((List.range v).filter fun u => decide (w ∈ nxs g u)).length ≤ v := by
            have := List.length_filter_le (fun u => decide (w ∈ nxs g u)) (List.range v)
            rwa [List.length_range] at this
          have h2 : (if w ∈ r.nx.take j then [v] else []).length ≤ 1 := by split <;> simp
          exact Nat.lt_of_le_of_lt (show _ ≤ 100 by omega) (by decide)
        rw [et, ← bst_set hwl hnd]
        unfold mAppAt mBind mVar
        simp only [List.getElem?_cons_succ, List.getElem?_cons_zero, hix, hb, List.set]
        rw [if_pos hsz]
  obtain ⟨z', l1, b2, b3, rfl⟩ := loop
  have ef : fzB (.ms (bst g g.length [])) = some (.lst ((List.range g.length).map fun w => .lst ((bfs g w).map nD))) := by
    rw [fz_bst]
    congr 2
    refine List.map_congr_left fun w _ => ?_
    rw [if_neg (by simp), List.append_nil]
    rfl
  refine f_rt (z1 := ⟨[.v (dG g), .v (.lst ((List.range g.length).map fun w => .lst ((bfs g w).map nD))), b2, b3, .un], s⟩) ?_
  refine r_seq (r_own c) ?_
  refine r_seq (r_for (r_range (r_un (r_pk (by rfl)) (gLen_G g)) (by omega)) l1) ?_
  refine r_ret ?_
  unfold mVar
  simp only [List.getElem?_cons_succ, List.getElem?_cons_zero, ef]
  rfl
end M.K
namespace M.K
open PySem L2 M M.Att
/-! ## steps_to -/
def mn (g : List Row) (p : Int) (v : Nat) : Bool := match g[v]? with
  | some r => decide (r.o = p)
  | none => false
def dB (g : List Row) : D := .lst ((List.range g.length).map fun w => .lst ((bfs g w).map nD))
def dA (g : List Row) : D := .lst (List.replicate g.length (.bl true))
def ez (g : List Row) (p : Int) (go : D) (s : List SObj) (x : Q × Q) (k : Nat) (b5 b10 b11 : B) : Z :=
  ⟨[.v (dG g), .v (dB g), .v (dA g), .v (.int p), .v go, b5, .md (kks x.1) (kds x.1), .md (kks x.2) (kds x.2), .ml (x.1.map fun q => nD q.1), .v (nD k), b10, b11], s⟩
theorem gIn_n (f : Bool → Bool) (q : Q) (v : Nat) : gInA f (nD v) (.dic (kks q) (kds q)) = some (.bl (f (q.lookup v).isSome)) := by
  show (toKey (nD v)).map (fun k => D.bl (f (getK (kks q) (kds q) k).isSome)) = _
  show some (D.bl (f (getK (kks q) (kds q) (nK v)).isSome)) = _
  rw [getK_n, Option.isSome_map]
theorem gSub_n {q : Q} {v x : Nat} (h : q.lookup v = some x) : gSubs (.dic (kks q) (kds q)) (nD v) = some (nD x) := by
  show (toKey (nD v)).bind (fun k => getK (kks q) (kds q) k) = _
  show getK (kks q) (kds q) (nK v) = _
  rw [getK_n, h]
  rfl
theorem putB_n {q : Q} {v x : Nat} (hn : (q.map Prod.fst).Nodup) (hl : q.length < sizeLine) : putB (.md (kks q) (kds q)) (nD v) (nD x) = some (.md (kks (put q v x)) (kds (put q v x))) := by
  have e : putO (.dic (kks q) (kds q)) (nD v) (nD x) = some (.dic (kks (put q v x)) (kds (put q v x))) := by
    show (if (kks q).length < sizeLine then some (SObj.dic (putKs (kks q) (nK v)) (putDs (kks q) (kds q) (nK v) (nD x))) else none) = _
    rw [if_pos (by unfold kks; rw [List.length_map]; exact hl), put_kks, putDs_n q v x hn]
  show (putO (.dic (kks q) (kds q)) (nD v) (nD x)).bind _ = _
  rw [e]
  rfl
theorem dA_at {g : List Row} {v : Nat} (h : v < g.length) : gSubs (dA g) (nD v) = some (.bl true) := by
  show gSubs (.lst _) (.int (v : Int)) = _
  rw [gSubs_ln, List.getElem?_replicate, if_pos h]
theorem dB_at {g : List Row} {v : Nat} (h : v < g.length) : gSubs (dB g) (nD v) = some (.lst ((bfs g v).map nD)) := by
  show gSubs (.lst _) (.int (v : Int)) = _
  rw [gSubs_ln, List.getElem?_map, List.getElem?_range h]
  rfl
theorem len_le {q : Q} {n : Nat} (hn : (q.map Prod.fst).Nodup) (hl : ∀ p ∈ q, p.1 < n) : q.length ≤ n := by
  have := nodup_le (ys := List.range n) hn fun a ha => by
    obtain ⟨p, hp, rfl⟩ := List.mem_map.mp ha
    exact List.mem_range.mpr (hl p hp)
  rwa [List.length_map, List.length_range] at this
theorem lt_line {k : Nat} (h : k ≤ 1000) : k < sizeLine := Nat.lt_of_le_of_lt h (by decide)
def bIn : Mi Fl := (mSeq (mIte (mOr (mNot (mTru (mOp gSubs (mVar 2) (mPk 5)))) (mTru (mOp (gInA id) (mVar 5) (mPk 6)))) (mFl .ct) (mFl .nx))
    (mSeq (mIte (mTru (mOp gNe (mOp gSubs (mOp gSubs (mVar 0) (mPk 5)) (mPure (.int 0))) (mPk 3))) (mSeq (mIte (mTru (mOp (gInA not) (mVar 5) (mPk 7))) (mAsg2 (mUn gLen (mSettle (mLc [11] (mItems (mOp gSubs (mOp gSubs (mVar 0) (mPk 5)) (mPure (.int 2)))) (tgName 11) (mTru (mOp gSubs (mVar 2) (mPk 11))) (mVar 11)))) (tgSubP 7 (mVar 5))) (mFl .nx))
    (mSeq (mDAug (fun a b => a - b) 7 (mVar 5) (mPure (.int 1)))
    (mIte (mTru (mOp gGt (mOpP gSubs 7 (mPk 5)) (mPure (.int 0)))) (mFl .ct) (mFl .nx)))) (mFl .nx))
    (mSeq (mAsg2 (mOp gAdd (mOpP gSubs 6 (mPk 10)) (mPure (.int 1))) (tgSubP 6 (mVar 5)))
    (mDrop (mApp 8 (mVar 5))))))
/-- v is put at the end -/
theorem tail_ok {g : List Row} {p : Int} {go : D} {s : List SObj} {x : Q × Q} {k v w sw : Nat} {b11 : B} (hn : (x.1.map Prod.fst).Nodup) (hl : x.1.length ≤ 1000) (hw : x.1.lookup w = some sw) (hv : x.1.lookup v = none) :
    (mSeq (mAsg2 (mOp gAdd (mOpP gSubs 6 (mPk 10)) (mPure (.int 1))) (tgSubP 6 (mVar 5))) (mDrop (mApp 8 (mVar 5)))) (ez g p go s x k (.v (nD v)) (.v (nD w)) b11) = .ok .nx (ez g p go s (x.1 ++ [(v, sw + 1)], x.2) k (.v (nD v)) (.v (nD w)) b11) := by
  have e1 : gAdd (nD sw) (.int 1) = some (nD (sw + 1)) := by
    show some (D.int ((sw : Int) + 1)) = _
    congr 2
  have e2 : tgSubP 6 (mVar 5) (nD (sw + 1)) (ez g p go s x k (.v (nD v)) (.v (nD w)) b11) = .ok () ⟨(ez g p go s x k (.v (nD v)) (.v (nD w)) b11).e.set 6 (.md (kks (x.1 ++ [(v, sw + 1)])) (kds (x.1 ++ [(v, sw + 1)]))), s⟩ := by
    have hp := putB_n (v := v) (x := sw + 1) hn (lt_line hl)
    rw [put_none x.1 v (sw + 1) hv] at hp
    unfold tgSubP mBind mVar ez
    simp only [List.getElem?_cons_succ, List.getElem?_cons_zero, Option.bind_some, shB, hp]
  refine r_seq (r_asg2 (r_op (r_opP (by rfl) (r_pk (by rfl)) (by rfl) (gSub_n hw)) (by rfl) e1) e2) ?_
  have ea : mApp 8 (mVar 5) ⟨(ez g p go s x k (.v (nD v)) (.v (nD w)) b11).e.set 6 (.md (kks (x.1 ++ [(v, sw + 1)])) (kds (x.1 ++ [(v, sw + 1)]))), s⟩ = .ok .non (ez g p go s (x.1 ++ [(v, sw + 1)], x.2) k (.v (nD v)) (.v (nD w)) b11) := by
    have := r_app (i := 8) (z := ⟨(ez g p go s x k (.v (nD v)) (.v (nD w)) b11).e.set 6 (.md (kks (x.1 ++ [(v, sw + 1)])) (kds (x.1 ++ [(v, sw + 1)]))), s⟩) (m := mVar 5) (ds2 := x.1.map fun q => nD q.1) ⟨_, rfl⟩ (r_var (by rfl)) (by rfl) (by rw [List.length_map]; exact lt_line hl)
    rw [this]
    unfold ez
    simp only [List.set, List.map_append, List.map_cons, List.map_nil]
  exact r_drop ea
theorem bIn_ok {g : List Row} (h : GOk g) {p : Int} {go : D} {s : List SObj} {goal : List Nat} {P : List Nat} {x : Q × Q} {k v w sw : Nat} {bs : List Nat} {b5 b11 : B} (hI : InI g.length (nxs g) (mn g p) goal P w sw (v :: bs) x) (hP : P.Nodup) (hnw : w ∉ P) (hv : v < g.length) (hwv : w ∈ nxs g v) :
    ∃ f, bIn (ez g p go s x k (.v (nD v)) (.v (nD w)) b11) = .ok f (ez g p go s (step1 (nxs g) (mn g p) sw v x) k (.v (nD v)) (.v (nD w)) b11) ∧ (f = .nx ∨ f = .ct) := by
  obtain ⟨r, hr, hrm, hnx⟩ := row_at hv
  have rok := h.row r hrm
  have hgl := h.le
  have hql : x.1.length ≤ g.length := len_le hI.rg.nd hI.rg.lt
  have hwl : x.2.length ≤ g.length := len_le hI.nw hI.wl
  unfold bIn step1
  cases hs : x.1.lookup v with
  | some y =>
    refine ⟨.ct, ?_, .inr rfl⟩
    rw [if_pos (by rfl)]
    have e := gIn_n id x.1 v
    rw [hs] at e
    exact r_outc (r_iteT (r_orF (r_notT (r_tru (r_op (r_var (by rfl)) (r_pk (by rfl)) (dA_at hv)))) (r_tru (r_op (r_var (by rfl)) (r_pk (by rfl)) e))) (by rfl))
  | none =>
    rw [if_neg (by simp)]
    have e := gIn_n id x.1 v
    rw [hs] at e
    have first : (mIte (mOr (mNot (mTru (mOp gSubs (mVar 2) (mPk 5)))) (mTru (mOp (gInA id) (mVar 5) (mPk 6)))) (mFl .ct) (mFl .nx)) (ez g p go s x k (.v (nD v)) (.v (nD w)) b11) = .ok .nx (ez g p go s x k (.v (nD v)) (.v (nD w)) b11) := by
      exact r_iteF (r_orF (r_notT (r_tru (r_op (r_var (by rfl)) (r_pk (by rfl)) (dA_at hv)))) (r_tru (r_op (r_var (by rfl)) (r_pk (by rfl)) e))) (by rfl)
    have hm : mn g p v = decide (r.o = p) := by unfold mn; rw [hr]
    by_cases hop : r.o = p
    · have hm1 : mn g p v = true := by rw [hm]; exact decide_eq_true hop
      rw [if_pos hm1]
      refine ⟨.nx, r_seq first (r_seq ?_ (tail_ok hI.rg.nd (by omega) hI.lw hs)), .inl rfl⟩
      exact r_iteF (r_tru (r_op (r_op (r_op (r_var (by rfl)) (r_pk (by rfl)) (gSubs_G hr)) (by rfl) gSubs_t0) (r_pk (by rfl)) (gNe_ints hop))) (by rfl)
    · have hm1 : mn g p v = false := by rw [hm]; exact decide_eq_false hop
      rw [if_neg (by rw [hm1]; exact Bool.false_ne_true)]
      have hc := (hI.old v hv (by simp)).cpos hP hwv hnw hs hm1
      have ne : gNe (.int r.o) (.int p) = some (.bl true) := by rw [gNe_int, decide_eq_true hop]
      -- waiting
      have e7 := gIn_n not x.2 v
      have wait : ∃ b11', (mIte (mTru (mOp (gInA not) (mVar 5) (mPk 7))) (mAsg2 (mUn gLen (mSettle (mLc [11] (mItems (mOp gSubs (mOp gSubs (mVar 0) (mPk 5)) (mPure (.int 2)))) (tgName 11) (mTru (mOp gSubs (mVar 2) (mPk 11))) (mVar 11)))) (tgSubP 7 (mVar 5))) (mFl .nx)) (ez g p go s x k (.v (nD v)) (.v (nD w)) b11) =
          .ok .nx (ez g p go s (x.1, if (x.2.lookup v).isSome then x.2 else put x.2 v (nxs g v).length) k (.v (nD v)) (.v (nD w)) b11') ∧ b11' = b11 := by
        refine ⟨b11, ?_, rfl⟩
        cases hx : x.2.lookup v with
        | some y =>
          rw [hx] at e7
          rw [if_pos (by rfl)]
          exact r_iteF (r_tru (r_op (r_var (by rfl)) (r_pk (by rfl)) e7)) (by rfl)
        | none =>
          rw [hx] at e7
          rw [if_neg (by simp)]
          have comp : mLc [11] (mItems (mOp gSubs (mOp gSubs (mVar 0) (mPk 5)) (mPure (.int 2)))) (tgName 11) (mTru (mOp gSubs (mVar 2) (mPk 11))) (mVar 11) (ez g p go s x k (.v (nD v)) (.v (nD w)) b11) = .ok (.ml (((r.nx.map nD).filter fun _ => true).map id)) (ez g p go s x k (.v (nD v)) (.v (nD w)) b11) := by
            have hi : (mItems (mOp gSubs (mOp gSubs (mVar 0) (mPk 5)) (mPure (.int 2)))) (ez g p go s x k (.v (nD v)) (.v (nD w)) b11) = .ok (r.nx.map nD) (ez g p go s x k (.v (nD v)) (.v (nD w)) b11) := by
              exact r_items (r_op (r_op (r_var (by rfl)) (r_pk (by rfl)) (gSubs_G hr)) (by rfl) gSubs_t2) (by rfl)
            refine lc_ok (fun _ => true) id hi (by rw [List.length_map]; have := rok.len; exact small (by omega)) fun d hd => ?_
            obtain ⟨u, hu, rfl⟩ := List.mem_map.mp hd
            refine ⟨ez g p go s x k (.v (nD v)) (.v (nD w)) (.v (nD u)), rfl, ez g p go s x k (.v (nD v)) (.v (nD w)) (.v (nD u)), ?_, fun q => (by cases q), fun _ => ⟨ez g p go s x k (.v (nD v)) (.v (nD w)) (.v (nD u)), ?_, rfl⟩⟩
            · exact r_tru (r_op (r_var (by rfl)) (r_pk (by rfl)) (dA_at (rok.lt u hu)))
            · exact r_var (by rfl)
          have el : gLen (.lst (((r.nx.map nD).filter fun _ => true).map id)) = some (nD (nxs g v).length) := by
            show some (D.int ((((r.nx.map nD).filter fun _ => true).map id).length : Int)) = _
            rw [List.map_id, List.filter_eq_self.mpr fun _ _ => rfl, List.length_map, hnx]
          have et : tgSubP 7 (mVar 5) (nD (nxs g v).length) (ez g p go s x k (.v (nD v)) (.v (nD w)) b11) = .ok () (ez g p go s (x.1, put x.2 v (nxs g v).length) k (.v (nD v)) (.v (nD w)) b11) := by
            have hp := putB_n (v := v) (x := (nxs g v).length) hI.nw (lt_line (by omega))
            unfold tgSubP mBind mVar ez
            simp only [List.getElem?_cons_succ, List.getElem?_cons_zero, Option.bind_some, shB, hp, List.set]
          exact r_iteT (r_tru (r_op (r_var (by rfl)) (r_pk (by rfl)) e7)) (r_asg2 (r_un (r_settle comp (by rfl)) el) et)
      obtain ⟨b11', wait, rfl⟩ := wait
      generalize hw1 : (if (x.2.lookup v).isSome then x.2 else put x.2 v (nxs g v).length) = wt1 at wait
      have l1 : wt1.lookup v = some ((x.2.lookup v).getD (nxs g v).length) := by
        rw [← hw1]
        cases hx : x.2.lookup v with
        | some y => rw [if_pos (by rfl)]; rw [hx]; rfl
        | none => rw [if_neg (by simp), put_lookup, if_pos rfl]; rfl
      have n1 : (wt1.map Prod.fst).Nodup := by
        rw [← hw1]
        split
        · exact hI.nw
        · exact put_nodup hI.nw
      have ll1 : wt1.length ≤ g.length := len_le n1 (by
        rw [← hw1]
        split
        · exact hI.wl
        · exact fun p hp => (put_mem hp).elim (fun e => by rw [e]; exact hv) (hI.wl p))
      have pp : put wt1 v ((x.2.lookup v).getD (nxs g v).length - 1) = put x.2 v ((x.2.lookup v).getD (nxs g v).length - 1) := by
        rw [← hw1]
        split
        · rfl
        · exact put_put _ _ _ _
      generalize hcc : (x.2.lookup v).getD (nxs g v).length = c at hc l1 pp ⊢
      have aug : mDAug (fun a b => a - b) 7 (mVar 5) (mPure (.int 1)) (ez g p go s (x.1, wt1) k (.v (nD v)) (.v (nD w)) b11') = .ok .nx (ez g p go s (x.1, put wt1 v (c - 1)) k (.v (nD v)) (.v (nD w)) b11') := by
        have gk : getK (kks wt1) (kds wt1) (nK v) = some (.int (c : Int)) := by rw [getK_n, l1]; rfl
        have hc1 : D.int ((c : Int) - 1) = nD (c - 1) := by show D.int _ = D.int _; congr 1; omega
        have hs : (kks wt1).length < sizeLine := by unfold kks; rw [List.length_map]; exact lt_line (by omega)
        unfold mDAug mBind mVar ez
        simp only [List.getElem?_cons_succ, List.getElem?_cons_zero, toKey, gk, mPure]
        rw [if_pos hs, hc1, ← put_kks wt1 v (c - 1), putDs_n wt1 v (c - 1) n1]
        simp only [List.set]
      have l2 : (put wt1 v (c - 1)).lookup v = some (c - 1) := by rw [put_lookup, if_pos rfl]
      rw [pp] at aug l2
      by_cases hx : 0 < c - 1
      · rw [if_pos hx]
        refine ⟨.ct, r_seq first (r_outc ?_), .inr rfl⟩
        refine r_iteT (r_tru (r_op (r_op (r_op (r_var (by rfl)) (r_pk (by rfl)) (gSubs_G hr)) (by rfl) gSubs_t0) (r_pk (by rfl)) ne)) ?_
        refine r_seq wait (r_seq aug ?_)
        exact r_iteT (r_tru (r_op (r_opP (by rfl) (r_pk (by rfl)) (by rfl) (gSub_n l2)) (by rfl) (gGt_t (by omega)))) (by rfl)
      · rw [if_neg hx]
        refine ⟨.nx, r_seq first (r_seq ?_ (tail_ok (x := (x.1, put x.2 v (c - 1))) hI.rg.nd (by show x.1.length ≤ _; omega) hI.lw hs)), .inl rfl⟩
        refine r_iteT (r_tru (r_op (r_op (r_op (r_var (by rfl)) (r_pk (by rfl)) (gSubs_G hr)) (by rfl) gSubs_t0) (r_pk (by rfl)) ne)) ?_
        refine r_seq wait (r_seq aug ?_)
        exact r_iteF (r_tru (r_op (r_opP (by rfl) (r_pk (by rfl)) (by rfl) (gSub_n l2)) (by rfl) (gGt_f (by omega)))) (by rfl)
end M.K
namespace M.K
open PySem L2 M M.Att
theorem dcGo_new {vs : List Nat} {t : D → Z → Option Z} {mk m : Mi D} {z0 : Z} : ∀ (l : List Nat) (q : Q) (z : Z), z.wipe vs = z0 → (∀ v ∈ l, ∃ z1, t (nD v) z0 = some z1 ∧ mk z1 = .ok (nD v) z1 ∧ m z1 = .ok (nD 0) z1 ∧ z1.wipe vs = z0) → l.Nodup → (∀ v ∈ l, v ∉ q.map Prod.fst) → (q.map Prod.fst).Nodup → q.length + l.length < sizeLine →
    ∃ z', mDcGo vs t (mPure true) mk m (l.map nD) (kks q) (kds q) z = .ok (kks (q ++ l.map fun v => (v, 0)), kds (q ++ l.map fun v => (v, 0))) z' ∧ z'.wipe vs = z0
  | [], q, z, hz, _, _, _, _, _ => ⟨z, by simp [mDcGo, mPure], hz⟩
  | v :: l, q, z, hz, h, hl, hn, hq, hs => by
    obtain ⟨z1, e1, e2, e3, e4⟩ := h v (by simp)
    have hvq : q.lookup v = none := lookup_none.mpr (hn v (by simp))
    have hl2 := List.nodup_cons.mp hl
    have pe := put_none q v 0 hvq
    have hq' : ((q ++ [(v, 0)]).map Prod.fst).Nodup := by rw [← pe]; exact put_nodup hq
    obtain ⟨z', k1, k2⟩ := dcGo_new l (q ++ [(v, 0)]) z1 e4 (fun u hu => h u (List.mem_cons_of_mem _ hu)) hl2.2 (fun u hu hc => by
      rw [List.map_append, List.mem_append] at hc
      rcases hc with hc | hc
      · exact hn u (List.mem_cons_of_mem _ hu) hc
      · have : u = v := by simpa using hc
        subst this
        exact hl2.1 hu) hq' (by simp at hs ⊢; omega)
    refine ⟨z', ?_, k2⟩
    rw [List.map_cons]
    unfold mDcGo
    simp only [hz, e1, mPure, e2, e3, toKey]
    rw [if_pos (by unfold kks; rw [List.length_map]; simp at hs; omega), ← put_kks q v 0, putDs_n q v 0 hq, pe, k1, List.map_cons, List.append_assoc]
    rfl
def at9 (z : Z) : Nat := match (z.e[9]? : Option B) with
  | some (.v (.int k)) => k.toNat
  | _ => 0
theorem steps_ok {g : List Row} (h : GOk g) (p : Int) (goal : List Nat) (hg : goal.Nodup) (hlt : ∀ v ∈ goal, v < g.length) (s : List SObj) :
    ∃ q : Q, f_steps_to [dG g, dB g, dA g, .int p, .lst (goal.map nD)] s = .ok (.dic (kks q) (kds q)) s ∧ Right g.length (nxs g) (mn g p) goal q ∧ (q.map Prod.fst).Nodup ∧ ∀ a ∈ q, a.1 < g.length := by
  have hgl := h.le
  have hglen : goal.length ≤ g.length := by
    have := nodup_le (ys := List.range g.length) hg fun a ha => List.mem_range.mpr (hlt a ha)
    rwa [List.length_range] at this
  have hnd : ∀ v, v < g.length → (nxs g v).Nodup := fun v hv => by obtain ⟨r, _, hr, e⟩ := row_at hv; rw [e]; exact (h.row r hr).nd
  have hne : ∀ v, v < g.length → nxs g v ≠ [] := fun v hv => by obtain ⟨r, _, hr, e⟩ := row_at hv; rw [e]; exact (h.row r hr).ne
  -- the turns
  have turns := while_inv (c := mTru (mOp gLt (mVar 9) (mUn gLen (mPk 8)))) (b := mSeq (mAsg (mOpP gSubs 8 (mPk 9)) (tgName 10)) (mSeq (mAug (fun a b => a + b) 9 (mPure (.int 1))) (mFor (mItems (mOp gSubs (mVar 1) (mPk 10))) (tgName 5) bIn)))
    (fun z : Z => ∃ k x b5 b10 b11, z = ez g p (.lst (goal.map nD)) s x k b5 b10 b11 ∧ OutI g.length (nxs g) (mn g p) goal k x)
    (fun z : Z => ∃ x b5 b10 b11, z = ez g p (.lst (goal.map nD)) s x x.1.length b5 b10 b11 ∧ OutI g.length (nxs g) (mn g p) goal x.1.length x)
    (fun z : Z => g.length + 1 - at9 z) (fun z hz => by
      obtain ⟨k, x, b5, b10, b11, rfl, hO⟩ := hz
      have el : gLen (.lst (x.1.map fun q => nD q.1)) = some (.int (x.1.length : Int)) := by
        show some (D.int ((x.1.map fun q => nD q.1).length : Int)) = _
        rw [List.length_map]
      have hql : x.1.length ≤ g.length := len_le hO.rg.nd hO.rg.lt
      by_cases hk : k < x.1.length
      · refine ⟨true, ez g p (.lst (goal.map nD)) s x k b5 b10 b11, ?_, fun e => (by cases e), fun _ => ?_⟩
        · exact r_tru (r_op (r_var (by rfl)) (r_un (r_pk (by rfl)) el) (gLt_t (by omega)))
        · obtain ⟨⟨w, sw⟩, hw⟩ : ∃ a, x.1[k]? = some a := ⟨_, List.getElem?_eq_getElem hk⟩
          have hwl : w < g.length := hO.rg.lt _ (List.mem_of_getElem? hw)
          have hb : ∀ v, v ∈ bfs g w ↔ v < g.length ∧ w ∈ nxs g v := fun v => by
            unfold bfs
            rw [List.mem_filter, List.mem_range]
            exact ⟨fun ⟨a, b⟩ => ⟨a, of_decide_eq_true b⟩, fun ⟨a, b⟩ => ⟨a, decide_eq_true b⟩⟩
          have hbn : (bfs g w).Nodup := List.nodup_range.filter _
          obtain ⟨hI, hP, hnw⟩ := hO.start hw hb
          have e8 : gSubs (.lst (x.1.map fun q => nD q.1)) (nD k) = some (nD w) := by
            rw [gSubs_ln, List.getElem?_map, hw]; rfl
          have inner := for_inv (t := tgName 5) (b := bIn) (fun j z => ∃ x' b5', z = ez g p (.lst (goal.map nD)) s x' (k + 1) b5' (.v (nD w)) b11 ∧ InI g.length (nxs g) (mn g p) goal ((x.1.take k).map Prod.fst) w sw ((bfs g w).drop j) x' ∧ ∃ r, x'.1 = x.1 ++ r)
            ((bfs g w).map nD) 0 (ez g p (.lst (goal.map nD)) s x (k + 1) b5 (.v (nD w)) b11) (fun j d hd z hz => by
              rw [Nat.zero_add] at hz ⊢
              obtain ⟨x', b5', rfl, hI', r, hr⟩ := hz
              rw [List.getElem?_map] at hd
              obtain ⟨v, hv, rfl⟩ := Option.map_eq_some_iff.mp hd
              obtain ⟨hj, ev⟩ := List.getElem?_eq_some_iff.mp hv
              have hvm : v ∈ bfs g w := List.mem_of_getElem? hv
              obtain ⟨hvl, hwv⟩ := (hb v).mp hvm
              have ed : (bfs g w).drop j = v :: (bfs g w).drop (j + 1) := by rw [List.drop_eq_getElem_cons hj, ev]
              rw [ed] at hI'
              have hnb : v ∉ (bfs g w).drop (j + 1) := by
                have := List.Nodup.sublist (List.drop_sublist j (bfs g w)) hbn
                rw [ed] at this
                exact (List.nodup_cons.mp this).1
              obtain ⟨f, run, hf⟩ := bIn_ok h (p := p) (go := .lst (goal.map nD)) (s := s) (k := k + 1) (b5 := b5') (b11 := b11) hI' hP hnw hvl hwv
              obtain ⟨st, r2, hr2⟩ := hI'.step hP hnw hvl hwv hnb
              exact ⟨_, rfl, f, _, run, hf, _, _, rfl, st, r ++ r2, by rw [hr2, hr, List.append_assoc]⟩) ⟨x, b5, rfl, by rw [List.drop_zero]; exact hI, [], by simp⟩
          obtain ⟨z', run, x', b5', rfl, hI', r, hr⟩ := inner
          rw [List.length_map, Nat.zero_add, List.drop_length] at hI'
          refine ⟨.nx, ez g p (.lst (goal.map nD)) s x' (k + 1) b5' (.v (nD w)) b11, ?_, .inl rfl, ⟨k + 1, x', b5', _, _, rfl, hO.next hw hI' hr⟩, ?_⟩
          · have ea : (mAug (fun a b => a + b) 9 (mPure (.int 1))) (ez g p (.lst (goal.map nD)) s x k b5 (.v (nD w)) b11) = .ok .nx (ez g p (.lst (goal.map nD)) s x (k + 1) b5 (.v (nD w)) b11) := rfl
            refine r_seq (z1 := ez g p (.lst (goal.map nD)) s x k b5 (.v (nD w)) b11) (r_asg (r_opP (by rfl) (r_pk (by rfl)) (by rfl) e8) (by rfl)) (r_seq ea ?_)
            exact r_for (r_items (r_op (r_var (by rfl)) (r_pk (by rfl)) (dB_at hwl)) (by rfl)) run
          · show g.length + 1 - ((k + 1 : Nat) : Int).toNat < g.length + 1 - ((k : Nat) : Int).toNat
            rw [Int.toNat_natCast, Int.toNat_natCast]
            omega
      · have he : k = x.1.length := by have := hO.le; omega
        subst he
        refine ⟨false, ez g p (.lst (goal.map nD)) s x x.1.length b5 b10 b11, ?_, fun _ => ⟨x, b5, b10, b11, rfl, hO⟩, fun e => (by cases e)⟩
        exact r_tru (r_op (r_var (by rfl)) (r_un (r_pk (by rfl)) el) (gLt_f (by omega))))
    1000000 (ez g p (.lst (goal.map nD)) s (goal.map fun v => (v, 0), []) 0 .un .un .un) ⟨0, _, _, _, _, rfl, OutI.zero hg hlt hne⟩ (by
      show g.length + 1 - ((0 : Nat) : Int).toNat < 1000000
      omega)
  obtain ⟨z', run, x, b5, b10, b11, rfl, hO⟩ := turns
  refine ⟨x.1, ?_, hO.right hnd hne, hO.rg.nd, hO.rg.lt⟩
  have c6 : mDc [5] (mItems (mVar 4)) (tgName 5) (mPure true) (mVar 5) (mPure (.int 0)) ⟨[.v (dG g), .v (dB g), .v (dA g), .v (.int p), .v (.lst (goal.map nD)), .un, .un, .un, .un, .un, .un, .un], s⟩ =
      .ok (.md (kks (goal.map fun v => (v, 0))) (kds (goal.map fun v => (v, 0)))) ⟨[.v (dG g), .v (dB g), .v (dA g), .v (.int p), .v (.lst (goal.map nD)), .un, .un, .un, .un, .un, .un, .un], s⟩ := by
    have hi : mItems (mVar 4) ⟨[.v (dG g), .v (dB g), .v (dA g), .v (.int p), .v (.lst (goal.map nD)), .un, .un, .un, .un, .un, .un, .un], s⟩ = .ok (goal.map nD) ⟨[.v (dG g), .v (dB g), .v (dA g), .v (.int p), .v (.lst (goal.map nD)), .un, .un, .un, .un, .un, .un, .un], s⟩ := rfl
    obtain ⟨z2, k1, k2⟩ := dcGo_new (vs := [5]) (t := tgName 5) (mk := mVar 5) (m := mPure (.int 0)) (z0 := ⟨[.v (dG g), .v (dB g), .v (dA g), .v (.int p), .v (.lst (goal.map nD)), .un, .un, .un, .un, .un, .un, .un], s⟩) goal [] ⟨[.v (dG g), .v (dB g), .v (dA g), .v (.int p), .v (.lst (goal.map nD)), .un, .un, .un, .un, .un, .un, .un], s⟩ rfl (fun v _ => ⟨_, rfl, rfl, rfl, rfl⟩) hg (fun _ _ h => by cases h) List.nodup_nil (by
      have : ([] : Q).length = 0 := rfl
      rw [this]
      exact lt_line (by omega))
    unfold mDc mBind
    have k1 : mDcGo [5] (tgName 5) (mPure true) (mVar 5) (mPure (.int 0)) (goal.map nD) [] [] _ = _ := k1
    simp only [hi, k1, List.nil_append]
    have e1 : wipeE z2.e [5] = wipeE [.v (dG g), .v (dB g), .v (dA g), .v (.int p), .v (.lst (goal.map nD)), .un, .un, .un, .un, .un, .un, .un] [5] := congrArg Z.e k2
    have e2 : (z2.wipe [5]).s = s := congrArg Z.s k2
    have e2 : z2.s = s := e2
    rw [back_wipe e1, e2]
  refine f_rt (z1 := ⟨[.v (dG g), .v (dB g), .v (dA g), .v (.int p), .v (.lst (goal.map nD)), b5, .v (.dic (kks x.1) (kds x.1)), .md (kks x.2) (kds x.2), .ml (x.1.map fun q => nD q.1), .v (nD x.1.length), b10, b11], s⟩) ?_
  refine r_seq (r_own c6) (r_seq (r_own (by rfl)) (r_seq (r_own (r_unB (r_pk (by rfl)) (by rfl))) (r_seq (r_asg (by rfl) (by rfl)) (r_seq (z1 := ez g p (.lst (goal.map nD)) s x x.1.length b5 b10 b11) ?_ (r_ret ?_)))))
  · have e8 : goal.map nD = (goal.map fun v => (v, 0)).map fun (q : Nat × Nat) => nD q.1 := by rw [List.map_map]; rfl
    unfold ez at run ⊢
    simp only [← e8] at run
    exact run
  · rfl
end M.K
namespace M.K
open PySem L2 M M.Att
def fdn (g : List Row) (q : Q) (v k : Nat) : Option Nat := (nxs g v).find? fun w => decide (q.lookup w = some k)
def oD : Option Nat → D
  | some w => nD w
  | none => .non
def dS (q : Q) : D := .dic (kks q) (kds q)
def bDn : Mi Fl := mIte (mTru (mOp gEq (mGet1 1 (mVar 3)) (mOp gSub (mOp gSubs (mVar 1) (mPk 2)) (mPure (.int 1))))) (mRet (mVar 3)) (mFl .nx)
theorem dn_go {g : List Row} {q : Q} {v k : Nat} (hv : q.lookup v = some (k + 1)) (s) : ∀ (l : List Nat) (b : B),
    (∃ b', (l.find? fun w => decide (q.lookup w = some k)) = none ∧ mForGo (tgName 3) bDn (l.map nD) ⟨[.v (dG g), .v (dS q), .v (nD v), b], s⟩ = .ok .nx ⟨[.v (dG g), .v (dS q), .v (nD v), b'], s⟩) ∨
    (∃ w, (l.find? fun w => decide (q.lookup w = some k)) = some w ∧ mForGo (tgName 3) bDn (l.map nD) ⟨[.v (dG g), .v (dS q), .v (nD v), b], s⟩ = .ok (.rt (nD w)) ⟨[.v (dG g), .v (dS q), .v (nD v), .v (nD w)], s⟩)
  | [], b => .inl ⟨b, rfl, rfl⟩
  | w :: l, b => by
    have e2 : gSub (nD (k + 1)) (.int 1) = some (nD k) := by
      show some (D.int (((k + 1 : Nat) : Int) - 1)) = some (D.int (k : Int))
      congr 2
      omega
    have e1 : mGet1 1 (mVar 3) ⟨[.v (dG g), .v (dS q), .v (nD v), .v (nD w)], s⟩ = .ok (oD (q.lookup w)) ⟨[.v (dG g), .v (dS q), .v (nD v), .v (nD w)], s⟩ := by
      have : gDGet1 (dS q) (nD w) = some (oD (q.lookup w)) := by
        show some ((getK (kks q) (kds q) (nK w)).getD .non) = _
        rw [getK_n]
        cases q.lookup w <;> rfl
      show mBind (mVar 3) (fun k => mBind (mPk 1) fun a => mLift (gDGet1 a k)) ⟨[.v (dG g), .v (dS q), .v (nD v), .v (nD w)], s⟩ = _
      show mLift (gDGet1 (dS q) (nD w)) _ = _
      rw [this]
      rfl
    have e3 : gEq (oD (q.lookup w)) (nD k) = some (.bl (decide (q.lookup w = some k))) := by
      cases hq : q.lookup w with
      | none => exact gEqv_nonint id k
      | some x =>
        show gEq (.int (x : Int)) (.int (k : Int)) = _
        rw [gEq_int]
        congr 2
        by_cases hx : x = k
        · subst hx; simp
        · rw [decide_eq_false (by omega), decide_eq_false (by simpa using hx)]
    have run : ∀ bb, decide (q.lookup w = some k) = bb → mTru (mOp gEq (mGet1 1 (mVar 3)) (mOp gSub (mOp gSubs (mVar 1) (mPk 2)) (mPure (.int 1)))) ⟨[.v (dG g), .v (dS q), .v (nD v), .v (nD w)], s⟩ = .ok bb ⟨[.v (dG g), .v (dS q), .v (nD v), .v (nD w)], s⟩ := fun bb hb => by
      rw [hb] at e3
      exact r_tru (r_op e1 (r_op (r_op (r_var (by rfl)) (r_pk (by rfl)) (gSub_n hv)) (by rfl) e2) e3)
    rw [List.map_cons]
    unfold mForGo
    show (∃ b', _ ∧ (match bDn ⟨[.v (dG g), .v (dS q), .v (nD v), .v (nD w)], s⟩ with
      | .ok .nx z2 => mForGo (tgName 3) bDn (l.map nD) z2
      | .ok .ct z2 => mForGo (tgName 3) bDn (l.map nD) z2
      | .ok .bk z2 => .ok .nx z2
      | r => r) = _) ∨ (∃ w', _ ∧ (match bDn ⟨[.v (dG g), .v (dS q), .v (nD v), .v (nD w)], s⟩ with
      | .ok .nx z2 => mForGo (tgName 3) bDn (l.map nD) z2
      | .ok .ct z2 => mForGo (tgName 3) bDn (l.map nD) z2
      | .ok .bk z2 => .ok .nx z2
      | r => r) = _)
    by_cases h : q.lookup w = some k
    · have hb : bDn ⟨[.v (dG g), .v (dS q), .v (nD v), .v (nD w)], s⟩ = .ok (.rt (nD w)) ⟨[.v (dG g), .v (dS q), .v (nD v), .v (nD w)], s⟩ := r_iteT (run true (decide_eq_true h)) (r_ret (r_var rfl))
      refine .inr ⟨w, by rw [List.find?_cons_of_pos (by simpa using h)], ?_⟩
      rw [hb]
    · have hb : bDn ⟨[.v (dG g), .v (dS q), .v (nD v), .v (nD w)], s⟩ = .ok .nx ⟨[.v (dG g), .v (dS q), .v (nD v), .v (nD w)], s⟩ := r_iteF (run false (decide_eq_false h)) rfl
      rw [hb]
      rw [List.find?_cons_of_neg (by simpa using h)]
      exact dn_go hv s l (.v (nD w))
theorem down_ok {g : List Row} {q : Q} {v k : Nat} (hvl : v < g.length) (hv : q.lookup v = some (k + 1)) (s) : f_step_down [dG g, dS q, nD v] s = .ok (oD (fdn g q v k)) s := by
  obtain ⟨r, hr, hrm, hnx⟩ := row_at hvl
  have hi : mItems (mOp gSubs (mOp gSubs (mVar 0) (mPk 2)) (mPure (.int 2))) ⟨[.v (dG g), .v (dS q), .v (nD v), .un], s⟩ = .ok (r.nx.map nD) ⟨[.v (dG g), .v (dS q), .v (nD v), .un], s⟩ := by
    exact r_items (r_op (r_op (r_var (by rfl)) (r_pk (by rfl)) (gSubs_G hr)) (by rfl) gSubs_t2) (by rfl)
  rcases dn_go (g := g) hv s r.nx .un with ⟨b', e1, e2⟩ | ⟨w, e1, e2⟩
  · have : fdn g q v k = none := by unfold fdn; rw [hnx]; exact e1
    rw [this]
    refine f_rt (z1 := ⟨[.v (dG g), .v (dS q), .v (nD v), b'], s⟩) ?_
    exact r_seq (r_for hi e2) (by rfl)
  · have : fdn g q v k = some w := by unfold fdn; rw [hnx]; exact e1
    rw [this]
    refine f_rt (z1 := ⟨[.v (dG g), .v (dS q), .v (nD v), .v (nD w)], s⟩) ?_
    exact r_out (r_for hi e2)
def ent (g : List Row) (p : Int) (q : Q) (v : Nat) : D := match q.lookup v with
  | none => .non
  | some 0 => .tup [nD 0, .non]
  | some (k + 1) => if mn g p v = true then .tup [nD (k + 1), oD (fdn g q v k)] else .tup [nD (k + 1), .non]
def bEn : Mi Fl := (mIte (mTru (mOp (gInA not) (mVar 5) (mPk 3))) (mDrop (mApp 4 (mPure .non))) (mIte (mAnd (mTru (mOp gGt (mOp gSubs (mVar 3) (mPk 5)) (mPure (.int 0)))) (mTru (mOp gEq (mOp gSubs (mOp gSubs (mVar 0) (mPk 5)) (mPure (.int 0))) (mPk 1)))) (mDrop (mApp 4 (mTup (mCons (mOp gSubs (mVar 3) (mPk 5)) (mCons (mCall 3 f_step_down (mCons (mVar 0) (mCons (mVar 3) (mCons (mVar 5) (mPure []))))) (mPure [])))))) (mDrop (mApp 4 (mTup (mCons (mOp gSubs (mVar 3) (mPk 5)) (mCons (mPure .non) (mPure []))))))))
def ezn (g : List Row) (p : Int) (go : D) (q : Q) (s : List SObj) (ds : List D) (b : B) : Z := ⟨[.v (dG g), .v (.int p), .v go, .v (dS q), .ml ds, b], s⟩
theorem app4 {g : List Row} {p : Int} {go : D} {q : Q} {s : List SObj} {ds : List D} {b : B} {m : Mi D} {d : D} (hm : m (ezn g p go q s ds b) = .ok d (ezn g p go q s ds b)) (hl : ds.length ≤ 1000) : mDrop (mApp 4 m) (ezn g p go q s ds b) = .ok .nx (ezn g p go q s (ds ++ [d]) b) :=
  r_drop (r_app (ds2 := ds) ⟨_, rfl⟩ hm rfl (lt_line hl))
theorem bEn_ok {g : List Row} {p : Int} {go : D} {q : Q} {s : List SObj} {ds : List D} {v : Nat} (hv : v < g.length) (hl : ds.length ≤ 1000) : bEn (ezn g p go q s ds (.v (nD v))) = .ok .nx (ezn g p go q s (ds ++ [ent g p q v]) (.v (nD v))) := by
  obtain ⟨r, hr, hrm, hnx⟩ := row_at hv
  have e := gIn_n not q v
  have hm : mn g p v = decide (r.o = p) := by unfold mn; rw [hr]
  unfold ent
  cases hq : q.lookup v with
  | none =>
    rw [hq] at e
    exact r_iteT (r_tru (r_op (r_var (by rfl)) (r_pk (by rfl)) e)) (app4 (by rfl) hl)
  | some k =>
    rw [hq] at e
    have first : (mTru (mOp (gInA not) (mVar 5) (mPk 3))) (ezn g p go q s ds (.v (nD v))) = .ok false (ezn g p go q s ds (.v (nD v))) := r_tru (r_op (r_var (by rfl)) (r_pk (by rfl)) e)
    have hk : (mOp gSubs (mVar 3) (mPk 5)) (ezn g p go q s ds (.v (nD v))) = .ok (nD k) (ezn g p go q s ds (.v (nD v))) := r_op (r_var (by rfl)) (r_pk (by rfl)) (gSub_n hq)
    cases k with
    | zero =>
      refine r_iteF first (r_iteF (r_andF (r_tru (r_op hk (by rfl) (gGt_f (by omega))))) ?_)
      exact app4 (r_tup (r_cons hk (r_cons (by rfl) (by rfl))) (by show 2 ≤ sizeLine; decide)) hl
    | succ k =>
      by_cases hop : r.o = p
      · have hm1 : mn g p v = true := by rw [hm]; exact decide_eq_true hop
        show _ = R.ok Fl.nx (ezn g p go q s (ds ++ [if mn g p v = true then _ else _]) _)
        rw [if_pos hm1]
        refine r_iteF first (r_iteT (r_andT (r_tru (r_op hk (by rfl) (gGt_t (by omega)))) (r_tru (r_op (r_op (r_op (r_var (by rfl)) (r_pk (by rfl)) (gSubs_G hr)) (by rfl) gSubs_t0) (r_pk (by rfl)) (gEq_ints hop)))) ?_)
        refine app4 (r_tup (r_cons hk (r_cons ?_ (by rfl))) (by show 2 ≤ sizeLine; decide)) hl
        exact r_call (r_cons (r_var (by rfl)) (r_cons (r_var (by rfl)) (r_cons (r_var (by rfl)) (by rfl)))) (down_ok hv hq s)
      · have hm1 : mn g p v = false := by rw [hm]; exact decide_eq_false hop
        show _ = R.ok Fl.nx (ezn g p go q s (ds ++ [if mn g p v = true then _ else _]) _)
        rw [if_neg (by rw [hm1]; exact Bool.false_ne_true)]
        have ne : gEq (.int r.o) (.int p) = some (.bl false) := by rw [gEq_int, decide_eq_false hop]
        refine r_iteF first (r_iteF (r_andT (r_tru (r_op hk (by rfl) (gGt_t (by omega)))) (r_tru (r_op (r_op (r_op (r_var (by rfl)) (r_pk (by rfl)) (gSubs_G hr)) (by rfl) gSubs_t0) (r_pk (by rfl)) ne))) ?_)
        exact app4 (r_tup (r_cons hk (r_cons (by rfl) (by rfl))) (by show 2 ≤ sizeLine; decide)) hl
end M.K
namespace M.K
open PySem L2 M M.Att
theorem rep_one (n : Nat) (d : D) : (List.replicate n [d]).flatten = List.replicate n d := by
  induction n with
  | zero => rfl
  | succ n ih => rw [List.replicate_succ, List.flatten_cons, ih]; rfl
theorem gRep_eq {ds : List D} {k : Int} (h1 : -(2 ^ 63) ≤ k) (h2 : k < 2 ^ 63) (h3 : ds.length * k.toNat ≤ sizeLine) : gRep (.lst ds) (.int k) = some (.lst (List.replicate k.toNat ds).flatten) := by
  unfold gRep
  exact if_pos ⟨h1, h2, h3⟩
def told (g : List Row) (p : Int) (q : Q) : D := .tup ((List.range g.length).map (ent g p q))
theorem entries_ok {g : List Row} (h : GOk g) (p : Int) (goal : List Nat) (hg : goal.Nodup) (hlt : ∀ v ∈ goal, v < g.length) (s : List SObj) :
    ∃ q : Q, f_steps_entries [dG g, .int p, dNs goal] s = .ok (told g p q) s ∧ Right g.length (nxs g) (mn g p) goal q ∧ (q.map Prod.fst).Nodup ∧ ∀ a ∈ q, a.1 < g.length := by
  obtain ⟨q, e, hR, hn, hl⟩ := steps_ok h p goal hg hlt s
  have hgl := h.le
  refine ⟨q, ?_, hR, hn, hl⟩
  have loop : ∃ z', mForGo (tgName 5) bEn ((List.range g.length).map nD) (ezn g p (dNs goal) q s [] .un) = .ok .nx z' ∧ ∃ b, z' = ezn g p (dNs goal) q s ((List.range g.length).map (ent g p q)) b := by
    have := for_inv (t := tgName 5) (b := bEn) (fun j z => ∃ b, z = ezn g p (dNs goal) q s ((List.range j).map (ent g p q)) b) ((List.range g.length).map nD) 0 (ezn g p (dNs goal) q s [] .un) (fun v d hd z hz => by
      rw [Nat.zero_add] at hz ⊢
      obtain ⟨b, rfl⟩ := hz
      rw [List.getElem?_map] at hd
      obtain ⟨v', hv', rfl⟩ := Option.map_eq_some_iff.mp hd
      obtain ⟨hvl, ev⟩ := List.getElem?_eq_some_iff.mp hv'
      rw [List.getElem_range] at ev
      subst ev
      rw [List.length_range] at hvl
      refine ⟨_, rfl, .nx, _, bEn_ok (ds := (List.range v).map (ent g p q)) hvl (by rw [List.length_map, List.length_range]; omega), .inl rfl, .v (nD v), ?_⟩
      rw [List.range_succ, List.map_append]
      rfl) ⟨_, rfl⟩
    rw [List.length_map, List.length_range, Nat.zero_add] at this
    exact this
  obtain ⟨z', run, b, rfl⟩ := loop
  have mul : gMul (.lst [.bl true]) (.int (g.length : Int)) = some (dA g) := by
    show (match gIc cMul (fun i j => D.int (i * j)) (.lst [.bl true]) (.int (g.length : Int)) with
      | some d => some d
      | none => gRep (.lst [.bl true]) (.int (g.length : Int))) = _
    show gRep (.lst [.bl true]) (.int (g.length : Int)) = _
    have hz : [D.bl true].length * (g.length : Int).toNat ≤ sizeLine := by
      rw [Int.toNat_natCast]
      show 1 * g.length ≤ sizeLine
      exact small (by omega)
    rw [gRep_eq (by omega) (by omega) hz, Int.toNat_natCast, rep_one]
    rfl
  refine f_rt (z1 := ezn g p (dNs goal) q s ((List.range g.length).map (ent g p q)) b) ?_
  refine r_seq (z1 := ⟨[.v (dG g), .v (.int p), .v (dNs goal), .v (dS q), .un, .un], s⟩) (r_asg (r_call (r_cons (r_var (by rfl)) (r_cons (r_call (r_cons (r_var (by rfl)) (by rfl)) (before_ok h s)) (r_cons (r_op (r_settle (r_lst (ds := [.bl true]) (by rfl) (by show 1 ≤ sizeLine; decide)) (by rfl)) (r_un (r_pk (by rfl)) (gLen_G g)) mul) (r_cons (r_var (by rfl)) (r_cons (r_settle (r_unB (ds := goal.map nD) (r_pk (by rfl)) (by rfl)) (by rfl)) (by rfl)))))) e) (by rfl)) ?_
  refine r_seq (z1 := ezn g p (dNs goal) q s [] .un) (r_own (r_lst (ds := []) (by rfl) (Nat.zero_le _))) ?_
  refine r_seq (r_for (r_range (r_un (r_pk (by rfl)) (gLen_G g)) (by omega)) run) ?_
  exact r_ret (r_un (r_pk (by rfl)) (by rfl))
/-- a goal: positions, ascending -/
structure GoalOk (n : Nat) (l : List Nat) : Prop where
  asc : l.Pairwise (· < ·)
  lt : ∀ v ∈ l, v < n
theorem GoalOk.nd {n : Nat} {l : List Nat} (h : GoalOk n l) : l.Nodup := h.asc.imp fun h => by omega
theorem forced_ok {g : List Row} (h : GOk g) {p : Int} (hp : p = 0 ∨ p = 1) {goal : List Nat} (hg : GoalOk g.length goal) (s : List SObj) :
    ∃ q : Q, f_forced_steps [dG g, .int p, dNs goal] s = .ok (told g p q) s ∧ Right g.length (nxs g) (mn g p) goal q := by
  obtain ⟨q, e, hR, _, _⟩ := entries_ok h p goal hg.nd hg.lt s
  refine ⟨q, ?_, hR⟩
  refine f_rt (z1 := ⟨[.v (dG g), .v (.int p), .v (dNs goal)], s⟩) ?_
  refine r_seq (r_drop (r_call (r_cons (r_var (by rfl)) (by rfl)) (need_game_ok h s))) ?_
  refine r_seq (r_drop (r_call (r_cons (r_var (by rfl)) (by rfl)) (need_player_ok hp s))) ?_
  refine r_seq (r_iteF (r_notT (r_tru (r_call (r_cons (r_var (by rfl)) (r_cons (r_un (r_pk (by rfl)) (gLen_G g)) (by rfl))) (asc_ok hg.asc hg.lt h.le s)))) (by rfl)) ?_
  exact r_ret (r_call (r_cons (r_var (by rfl)) (r_cons (r_var (by rfl)) (r_cons (r_var (by rfl)) (by rfl)))) e)
theorem forced_player {g : List Row} (h : GOk g) {d b : D} (s : List SObj) (hd : f_need_player [d] s = .ex "BadPlayer" s) : f_forced_steps [dG g, d, b] s = .ex "BadPlayer" s := by
  refine f_ex (z1 := ⟨[.v (dG g), .v d, .v b], s⟩) ?_
  refine r_seq (r_drop (r_call (r_cons (r_var (by rfl)) (by rfl)) (need_game_ok h s))) ?_
  exact r_outx (r_dropx (r_callx (r_cons (r_var (by rfl)) (by rfl)) hd))
theorem forced_goal {g : List Row} (h : GOk g) {p : Int} (hp : p = 0 ∨ p = 1) {b : D} (s : List SObj) (hb : f_are_ascending [b, .int (g.length : Int)] s = .ok (.bl false) s) : f_forced_steps [dG g, .int p, b] s = .ex "BadGoal" s := by
  refine f_ex (z1 := ⟨[.v (dG g), .v (.int p), .v b], s⟩) ?_
  refine r_seq (r_drop (r_call (r_cons (r_var (by rfl)) (by rfl)) (need_game_ok h s))) ?_
  refine r_seq (r_drop (r_call (r_cons (r_var (by rfl)) (by rfl)) (need_player_ok hp s))) ?_
  exact r_outx (r_iteT (r_notF (r_tru (r_call (r_cons (r_var (by rfl)) (r_cons (r_un (r_pk (by rfl)) (gLen_G g)) (by rfl))) hb))) (by rfl))
theorem word_player {g : List Row} (h : GOk g) {d b : D} (s : List SObj) (hd : f_need_player [d] s = .ex "BadPlayer" s) : f__law_word [dG g, d, b] s = .ok (.str "player") s := by
  have e : (mDrop (mCall 3 f_forced_steps (mCons (mVar 0) (mCons (mVar 1) (mCons (mVar 2) (mPure [])))))) ⟨[.v (dG g), .v d, .v b, .v (.str "")], s⟩ = .ex "BadPlayer" ⟨[.v (dG g), .v d, .v b, .v (.str "")], s⟩ :=
    r_dropx (r_callx (r_cons (r_var rfl) (r_cons (r_var rfl) (r_cons (r_var rfl) rfl))) (forced_player h s hd))
  refine f_rt (z1 := ⟨[.v (dG g), .v d, .v b, .v (.str "player")], s⟩) ?_
  refine r_seq (z1 := ⟨[.v (dG g), .v d, .v b, .v (.str "")], s⟩) (r_asg (by rfl) (by rfl)) (r_seq (z1 := ⟨[.v (dG g), .v d, .v b, .v (.str "player")], s⟩) ?_ (r_ret (r_var (by rfl))))
  unfold mTry
  rw [e]
  rfl
theorem word_goal {g : List Row} (h : GOk g) {p : Int} (hp : p = 0 ∨ p = 1) {b : D} (s : List SObj) (hb : f_are_ascending [b, .int (g.length : Int)] s = .ok (.bl false) s) : f__law_word [dG g, .int p, b] s = .ok (.str "goal") s := by
  have e : (mDrop (mCall 3 f_forced_steps (mCons (mVar 0) (mCons (mVar 1) (mCons (mVar 2) (mPure [])))))) ⟨[.v (dG g), .v (.int p), .v b, .v (.str "")], s⟩ = .ex "BadGoal" ⟨[.v (dG g), .v (.int p), .v b, .v (.str "")], s⟩ :=
    r_dropx (r_callx (r_cons (r_var rfl) (r_cons (r_var rfl) (r_cons (r_var rfl) rfl))) (forced_goal h hp s hb))
  refine f_rt (z1 := ⟨[.v (dG g), .v (.int p), .v b, .v (.str "goal")], s⟩) ?_
  refine r_seq (z1 := ⟨[.v (dG g), .v (.int p), .v b, .v (.str "")], s⟩) (r_asg (by rfl) (by rfl)) (r_seq (z1 := ⟨[.v (dG g), .v (.int p), .v b, .v (.str "goal")], s⟩) ?_ (r_ret (r_var (by rfl))))
  unfold mTry
  rw [e]
  rfl
end M.K
namespace M.K
open PySem L2 M M.Att
theorem gNe_bl (a : Bool) : gNe (.bl a) (.bl a) = some (.bl false) := by cases a <;> rfl
/-- what compares as itself -/
def Flat (d : D) : Prop := (∃ i, d = .int i) ∨ d = .non
theorem alike_flat {d : D} (h : Flat d) (n : Nat) (s) : f__law_alike (n + 1) [d, d] s = .ok (.bl true) s := by
  have t : gIsi "tuple" d = some (.bl false) := by rcases h with ⟨i, rfl⟩ | rfl <;> rfl
  have b : ∃ x, gIsi "bool" d = some (.bl x) := by rcases h with ⟨i, rfl⟩ | rfl <;> exact ⟨_, rfl⟩
  have c : ∃ x, gIsi "str" d = some (.bl x) := by rcases h with ⟨i, rfl⟩ | rfl <;> exact ⟨_, rfl⟩
  have e : gEq d d = some (.bl true) := by
    rcases h with ⟨i, rfl⟩ | rfl
    · rw [gEq_int]; simp
    · rfl
  obtain ⟨x, b⟩ := b
  obtain ⟨y, c⟩ := c
  refine f_rt (z1 := ⟨[.v d, .v d, .un], s⟩) ?_
  refine r_seq (r_iteF (r_andF (r_tru (r_un (r_var (by rfl)) t))) (by rfl)) ?_
  refine r_seq (r_iteF (r_orF (r_tru (r_op (r_un (r_var (by rfl)) b) (r_un (r_var (by rfl)) b) (gNe_bl x))) (r_tru (r_op (r_un (r_var (by rfl)) c) (r_un (r_var (by rfl)) c) (gNe_bl y)))) (by rfl)) ?_
  exact r_ret (r_op (r_var (by rfl)) (r_pk (by rfl)) e)
theorem alike_pair {a b : D} (ha : Flat a) (hb : Flat b) (n : Nat) (s) : f__law_alike (n + 2) [.tup [a, b], .tup [a, b]] s = .ok (.bl true) s := by
  have hr : mRange1 (mUn gLen (mPk 0)) ⟨[.v (.tup [a, b]), .v (.tup [a, b]), .un], s⟩ = .ok ((List.range 2).map nD) ⟨[.v (.tup [a, b]), .v (.tup [a, b]), .un], s⟩ := r_range (j := 2) (r_un (r_pk rfl) rfl) (by omega)
  have comp : mLc [2] (mRange1 (mUn gLen (mPk 0))) (tgName 2) (mNot (mTru (mCall 2 (f__law_alike (n + 1)) (mCons (mOp gSubs (mVar 0) (mPk 2)) (mCons (mOp gSubs (mVar 1) (mPk 2)) (mPure [])))))) (mVar 2) ⟨[.v (.tup [a, b]), .v (.tup [a, b]), .un], s⟩ = .ok (.ml ((((List.range 2).map nD).filter fun _ => false).map id)) ⟨[.v (.tup [a, b]), .v (.tup [a, b]), .un], s⟩ := by
    refine lc_ok (fun _ => false) id hr (by show 2 ≤ sizeLine; decide) fun d hd => ?_
    obtain ⟨k, hk, rfl⟩ := List.mem_map.mp hd
    have hk := List.mem_range.mp hk
    refine ⟨⟨[.v (.tup [a, b]), .v (.tup [a, b]), .v (nD k)], s⟩, rfl, ⟨[.v (.tup [a, b]), .v (.tup [a, b]), .v (nD k)], s⟩, ?_, fun _ => rfl, fun q => (by cases q)⟩
    have hx : ∃ d, Flat d ∧ gSubs (.tup [a, b]) (nD k) = some d := by
      match k, hk with
      | 0, _ => exact ⟨a, ha, gSubs_tn _ 0⟩
      | 1, _ => exact ⟨b, hb, gSubs_tn _ 1⟩
    obtain ⟨d, hd, e⟩ := hx
    exact r_notT (r_tru (r_call (r_cons (r_op (r_var (by rfl)) (r_pk (by rfl)) e) (r_cons (r_op (r_var (by rfl)) (r_pk (by rfl)) e) (by rfl))) (alike_flat hd n s)))
  refine f_rt (z1 := ⟨[.v (.tup [a, b]), .v (.tup [a, b]), .un], s⟩) ?_
  refine r_out (r_iteT (r_andT (r_tru (r_un (r_var (by rfl)) (by rfl))) (r_tru (r_un (r_var (by rfl)) (by rfl)))) (r_ret (r_andVT (r_op (r_un (r_pk (by rfl)) (by rfl)) (r_un (r_pk (by rfl)) (by rfl)) (gEq_ints (a := 2) (b := 2) rfl)) ?_)))
  exact r_op (r_settle comp (by rfl)) (r_settle (r_lst (ds := []) (by rfl) (Nat.zero_le _)) (by rfl)) (gEqv_lst id [] [])
end M.K
namespace M.K
open PySem L2 M M.Att
theorem toVs_n : ∀ l : List Nat, toVs (l.map nD) = some (l.map fun (v : Nat) => V.int (v : Int))
  | [] => rfl
  | x :: l => by
    rw [List.map_cons]
    unfold toVs
    rw [toVs_n l]
    rfl
theorem inV_n (v : Nat) : ∀ l : List Nat, inV (V.int (v : Int)) (l.map fun (u : Nat) => V.int (u : Int)) = decide (v ∈ l)
  | [] => rfl
  | u :: l => by
    have ih := inV_n v l
    unfold inV at ih ⊢
    rw [List.map_cons, List.any_cons, ih]
    have : eqV (V.int (u : Int)) (V.int (v : Int)) = decide (u = v) := by
      show decide ((u : Int) = (v : Int)) = _
      by_cases h : u = v
      · rw [decide_eq_true h, decide_eq_true (by omega)]
      · rw [decide_eq_false h, decide_eq_false (by omega)]
    rw [this]
    by_cases h : u = v
    · subst h; simp
    · have h' : ¬ v = u := fun e => h e.symm
      by_cases h2 : v ∈ l <;> simp [h, h', h2]
theorem gIn_ns (v : Nat) (l : List Nat) : gInA id (nD v) (dNs l) = some (.bl (decide (v ∈ l))) := by
  show gIn id (nD v) (.tup (l.map nD)) = _
  unfold gIn
  show (match some (V.int (v : Int)), toVs (l.map nD) with
    | some v, some vs => some (D.bl (id (inV v vs)))
    | _, _ => none) = _
  rw [toVs_n]
  show some (D.bl (inV _ _)) = _
  rw [inV_n]
theorem ent_none {g : List Row} {p : Int} {q : Q} {v : Nat} (h : q.lookup v = none) : ent g p q v = .non := by unfold ent; rw [h]
theorem ent_some {g : List Row} {p : Int} {q : Q} {v k : Nat} (h : q.lookup v = some k) : ∃ x, Flat x ∧ ent g p q v = .tup [nD k, x] := by
  unfold ent
  rw [h]
  cases k with
  | zero => exact ⟨.non, .inr rfl, rfl⟩
  | succ k =>
    show ∃ x, Flat x ∧ (if mn g p v = true then D.tup [nD (k + 1), oD (fdn g q v k)] else .tup [nD (k + 1), .non]) = _
    split
    · refine ⟨oD (fdn g q v k), ?_, rfl⟩
      cases fdn g q v k with
      | none => exact .inr rfl
      | some w => exact .inl ⟨w, rfl⟩
    · exact ⟨.non, .inr rfl, rfl⟩
theorem isnot_ent {g : List Row} {p : Int} {q : Q} {v : Nat} : gIs not (ent g p q v) .non = some (.bl (q.lookup v).isSome) := by
  cases h : q.lookup v with
  | none => rw [ent_none h]; rfl
  | some k => obtain ⟨x, _, e⟩ := ent_some (g := g) (p := p) h; rw [e]; rfl
theorem is_ent {g : List Row} {p : Int} {q : Q} {v : Nat} : gIs id (ent g p q v) .non = some (.bl (!(q.lookup v).isSome)) := by
  cases h : q.lookup v with
  | none => rw [ent_none h]; rfl
  | some k => obtain ⟨x, _, e⟩ := ent_some (g := g) (p := p) h; rw [e]; rfl
theorem told_at {g : List Row} {p : Int} {q : Q} {v : Nat} (h : v < g.length) : gSubs (told g p q) (nD v) = some (ent g p q v) := by
  show gSubs (.tup _) (.int (v : Int)) = _
  rw [gSubs_tn, List.getElem?_map, List.getElem?_range h]
  rfl
theorem ent_0 {g : List Row} {p : Int} {q : Q} {v k : Nat} (h : q.lookup v = some k) : gSubs (ent g p q v) (.int 0) = some (nD k) := by
  obtain ⟨x, _, e⟩ := ent_some (g := g) (p := p) h
  rw [e]
  exact gSubs_t0
theorem lstI_n (l : List Nat) : lstI (.lst (l.map nD)) = some (l.map fun (v : Nat) => (v : Int)) := toIs_n l
theorem gMin_n {l : List Nat} {k : Nat} (h : k ∈ l) (hm : ∀ x ∈ l, k ≤ x) : gMin (.lst (l.map nD)) = some (nD k) := by
  have e : ∃ m, minI (l.map fun (v : Nat) => (v : Int)) = some m := by
    cases l with
    | nil => cases h
    | cons x l => exact ⟨_, rfl⟩
  obtain ⟨m, e⟩ := e
  obtain ⟨h1, h2⟩ := minI_mem e
  obtain ⟨x, hx, rfl⟩ := List.mem_map.mp h1
  have a := h2 (k : Int) (List.mem_map.mpr ⟨k, h, rfl⟩)
  have b := hm x hx
  have : x = k := by omega
  subst this
  show ((lstI (.lst (l.map nD))).bind minI).map D.int = _
  rw [lstI_n]
  show (minI _).map D.int = _
  rw [e]
  rfl
theorem gMax_n {l : List Nat} {k : Nat} (h : k ∈ l) (hm : ∀ x ∈ l, x ≤ k) : gMax (.lst (l.map nD)) = some (nD k) := by
  have e : ∃ m, maxI (l.map fun (v : Nat) => (v : Int)) = some m := by
    cases l with
    | nil => cases h
    | cons x l => exact ⟨_, rfl⟩
  obtain ⟨m, e⟩ := e
  obtain ⟨h1, h2⟩ := maxI_mem e
  obtain ⟨x, hx, rfl⟩ := List.mem_map.mp h1
  have a := h2 (k : Int) (List.mem_map.mpr ⟨k, h, rfl⟩)
  have b := hm x hx
  have : x = k := by omega
  subst this
  show ((lstI (.lst (l.map nD))).bind maxI).map D.int = _
  rw [lstI_n]
  show (maxI _).map D.int = _
  rw [e]
  rfl
/-- the steps of the nexts that have some -/
def som (q : Q) (l : List Nat) : List Nat := (l.filter fun w => (q.lookup w).isSome).map fun w => (q.lookup w).getD 0
theorem mem_som {q : Q} {l : List Nat} {k : Nat} : k ∈ som q l ↔ ∃ w ∈ l, q.lookup w = some k := by
  unfold som
  rw [List.mem_map]
  constructor
  · rintro ⟨w, hw, rfl⟩
    obtain ⟨h1, h2⟩ := List.mem_filter.mp hw
    refine ⟨w, h1, ?_⟩
    cases e : q.lookup w with
    | none => rw [e] at h2; cases h2
    | some x => rfl
  · rintro ⟨w, hw, e⟩
    exact ⟨w, List.mem_filter.mpr ⟨hw, by rw [e]; rfl⟩, by rw [e]; rfl⟩
def zr (g : List Row) (p : Int) (goal : List Nat) (q : Q) (v : Nat) (r : Row) (s : List SObj) (b8 b9 b10 : B) : Z := ⟨[.v (dG g), .v (.int p), .v (dNs goal), .v (told g p q), .v (nD v), .v (.int r.o), .v (.int r.m), .v (dNs r.nx), b8, b9, b10], s⟩
theorem some_ok {g : List Row} {p : Int} {goal : List Nat} {q : Q} {v : Nat} {r : Row} {s : List SObj} (hr : RowOk g.length r) (hgl : g.length ≤ 60) :
    mLc [10] (mItems (mVar 7)) (tgName 10) (mTru (mOp (gIs not) (mOp gSubs (mVar 3) (mPk 10)) (mPure .non))) (mOp gSubs (mOp gSubs (mVar 3) (mPk 10)) (mPure (.int 0))) (zr g p goal q v r s .un .un .un) = .ok (.ml ((som q r.nx).map nD)) (zr g p goal q v r s .un .un .un) := by
  have := lc_ok (vs := [10]) (mi := mItems (mVar 7)) (t := tgName 10) (c := mTru (mOp (gIs not) (mOp gSubs (mVar 3) (mPk 10)) (mPure .non))) (m := mOp gSubs (mOp gSubs (mVar 3) (mPk 10)) (mPure (.int 0))) (z := zr g p goal q v r s .un .un .un) (zi := zr g p goal q v r s .un .un .un) (ds := r.nx.map nD)
    (fun d => match d with | .int k => (q.lookup k.toNat).isSome | _ => false) (fun d => match d with | .int k => nD ((q.lookup k.toNat).getD 0) | _ => .non) rfl (by rw [List.length_map]; have := hr.len; exact small (by omega)) fun d hd => by
    obtain ⟨w, hw, rfl⟩ := List.mem_map.mp hd
    have hwl := hr.lt w hw
    have t := told_at (g := g) (p := p) (q := q) hwl
    refine ⟨zr g p goal q v r s .un .un (.v (nD w)), rfl, zr g p goal q v r s .un .un (.v (nD w)), ?_, fun _ => rfl, fun hP => ?_⟩
    · exact r_tru (r_op (r_op (r_var (by rfl)) (r_pk (by rfl)) t) (by rfl) isnot_ent)
    · have hP : (q.lookup w).isSome = true := hP
      cases e : q.lookup w with
      | none => rw [e] at hP; cases hP
      | some k =>
        refine ⟨zr g p goal q v r s .un .un (.v (nD w)), ?_, rfl⟩
        show _ = R.ok (nD ((q.lookup w).getD 0)) _
        rw [e]
        exact r_op (r_op (r_var (by rfl)) (r_pk (by rfl)) t) (by rfl) (ent_0 e)
  rw [this]
  congr 2
  unfold som
  rw [List.filter_map, List.map_map, List.map_map]
  rfl
end M.K
namespace M.K
open PySem L2 M M.Att
theorem first_ok {g : List Row} {p : Int} {goal : List Nat} {q : Q} {v k : Nat} {r : Row} {s : List SObj} (hr : RowOk g.length r) (hgl : g.length ≤ 60) (hk : k ∈ som q r.nx) (hmin : ∀ x ∈ som q r.nx, k ≤ x) :
    mLc [10] (mItems (mVar 7)) (tgName 10) (mAnd (mTru (mOp (gIs not) (mOp gSubs (mVar 3) (mPk 10)) (mPure .non))) (mTru (mOp gEq (mOp gSubs (mOp gSubs (mVar 3) (mPk 10)) (mPure (.int 0))) (mUn gMin (mPk 8))))) (mVar 10) (zr g p goal q v r s (.v (.lst ((som q r.nx).map nD))) .un .un) =
      .ok (.ml ((r.nx.filter fun w => decide (q.lookup w = some k)).map nD)) (zr g p goal q v r s (.v (.lst ((som q r.nx).map nD))) .un .un) := by
  have := lc_ok (vs := [10]) (mi := mItems (mVar 7)) (t := tgName 10) (c := mAnd (mTru (mOp (gIs not) (mOp gSubs (mVar 3) (mPk 10)) (mPure .non))) (mTru (mOp gEq (mOp gSubs (mOp gSubs (mVar 3) (mPk 10)) (mPure (.int 0))) (mUn gMin (mPk 8))))) (m := mVar 10) (z := zr g p goal q v r s (.v (.lst ((som q r.nx).map nD))) .un .un) (zi := zr g p goal q v r s (.v (.lst ((som q r.nx).map nD))) .un .un) (ds := r.nx.map nD)
    (fun d => match d with | .int i => decide (q.lookup i.toNat = some k) | _ => false) id rfl (by rw [List.length_map]; have := hr.len; exact small (by omega)) fun d hd => by
    obtain ⟨w, hw, rfl⟩ := List.mem_map.mp hd
    have hwl := hr.lt w hw
    have t := told_at (g := g) (p := p) (q := q) hwl
    refine ⟨zr g p goal q v r s (.v (.lst ((som q r.nx).map nD))) .un (.v (nD w)), rfl, zr g p goal q v r s (.v (.lst ((som q r.nx).map nD))) .un (.v (nD w)), ?_, fun _ => rfl, fun _ => ⟨zr g p goal q v r s (.v (.lst ((som q r.nx).map nD))) .un (.v (nD w)), r_var rfl, rfl⟩⟩
    show _ = R.ok (decide (q.lookup w = some k)) _
    have ie := isnot_ent (g := g) (p := p) (q := q) (v := w)
    cases e : q.lookup w with
    | none =>
      rw [e] at ie
      exact r_andF (r_tru (r_op (r_op (r_var (by rfl)) (r_pk (by rfl)) t) (by rfl) ie))
    | some x =>
      rw [e] at ie
      have eq : gEq (nD x) (nD k) = some (.bl (decide (some x = some k))) := by
        show gEq (.int (x : Int)) (.int (k : Int)) = _
        rw [gEq_int]
        congr 2
        by_cases hx : x = k
        · subst hx; simp
        · rw [decide_eq_false (by omega), decide_eq_false (by simpa using hx)]
      exact r_andT (r_tru (r_op (r_op (r_var (by rfl)) (r_pk (by rfl)) t) (by rfl) ie)) (r_tru (r_op (r_op (r_op (r_var (by rfl)) (r_pk (by rfl)) t) (by rfl) (ent_0 e)) (r_un (r_pk (by rfl)) (gMin_n hk hmin)) eq))
  rw [this]
  congr 2
  rw [List.filter_map, List.map_id]
  rfl
theorem som_nil {q : Q} {l : List Nat} (h : ∀ w ∈ l, q.lookup w = none) : som q l = [] := by
  unfold som
  rw [List.filter_eq_nil_iff.mpr fun w hw => by rw [h w hw]; simp]
  rfl
theorem som_len {q : Q} {l : List Nat} : (som q l).length = l.length ↔ ∀ w ∈ l, ∃ k, q.lookup w = some k := by
  unfold som
  rw [List.length_map, List.length_filter_eq_length_iff]
  constructor
  · intro h w hw
    have := h w hw
    cases e : q.lookup w with
    | none => rw [e] at this; cases this
    | some k => exact ⟨k, rfl⟩
  · intro h w hw
    obtain ⟨k, e⟩ := h w hw
    rw [e]; rfl
theorem entry_ok {g : List Row} (h : GOk g) {p : Int} {goal : List Nat} (hgo : GoalOk g.length goal) {q : Q} (hR : Right g.length (nxs g) (mn g p) goal q) {v : Nat} (hv : v < g.length) (s : List SObj) :
    f__law_entry_right [dG g, .int p, dNs goal, told g p q, nD v] s = .ok (.bl true) s := by
  obtain ⟨r, hr, hrm, hnx⟩ := row_at hv
  have rok := h.row r hrm
  have hgl := h.le
  have hm : mn g p v = decide (r.o = p) := by unfold mn; rw [hr]
  have tv := told_at (g := g) (p := p) (q := q) hv
  have start : (mAsg (mOp gSubs (mVar 0) (mPk 4)) (tgTup 3 (tgsCons (tgName 5) (tgsCons (tgName 6) (tgsCons (tgName 7) tgsNil))))) ⟨[.v (dG g), .v (.int p), .v (dNs goal), .v (told g p q), .v (nD v), .un, .un, .un, .un, .un, .un], s⟩ = .ok .nx (zr g p goal q v r s .un .un .un) := by
    exact r_asg (r_op (r_var (by rfl)) (r_pk (by rfl)) (gSubs_G hr)) (by rfl)
  have gi := gIn_ns v goal
  have tv0 : ∀ b8 b9 b10, (mOp gSubs (mVar 3) (mPk 4)) (zr g p goal q v r s b8 b9 b10) = .ok (ent g p q v) (zr g p goal q v r s b8 b9 b10) := fun b8 b9 b10 => r_op (r_var rfl) (r_pk rfl) tv
  have tv1 : ∀ {b8 b9 b10 d}, ent g p q v = d → (mOp gSubs (mVar 3) (mPk 4)) (zr g p goal q v r s b8 b9 b10) = .ok d (zr g p goal q v r s b8 b9 b10) := fun {b8 b9 b10 d} e => by rw [tv0, e]
  by_cases hg : v ∈ goal
  · have e := hR.g v hv hg
    have en : ent g p q v = .tup [nD 0, .non] := by unfold ent; rw [e]
    rw [decide_eq_true hg] at gi
    refine f_rt (z1 := zr g p goal q v r s .un .un .un) ?_
    refine r_seq start (r_out (r_iteT (r_tru (r_op (r_var (by rfl)) (r_pk (by rfl)) gi)) (r_ret ?_)))
    exact r_call (r_cons (tv1 en) (r_cons (r_tup (ds := [.int 0, .non]) (by rfl) (by show 2 ≤ sizeLine; decide)) (by rfl))) (alike_pair (.inl ⟨0, rfl⟩) (.inr rfl) 1 s)
  rw [decide_eq_false hg] at gi
  have two : (mIte (mTru (mOp (gInA id) (mVar 4) (mPk 2))) (mRet (mCall 2 (f__law_alike 3) (mCons (mOp gSubs (mVar 3) (mPk 4)) (mCons (mTup (mCons (mPure (.int 0)) (mCons (mPure .non) (mPure [])))) (mPure []))))) (mFl .nx)) (zr g p goal q v r s .un .un .un) = .ok .nx (zr g p goal q v r s .un .un .un) := by
    exact r_iteF (r_tru (r_op (r_var (by rfl)) (r_pk (by rfl)) gi)) (by rfl)
  have three : (mAsg (mSettle (mLc [10] (mItems (mVar 7)) (tgName 10) (mTru (mOp (gIs not) (mOp gSubs (mVar 3) (mPk 10)) (mPure .non))) (mOp gSubs (mOp gSubs (mVar 3) (mPk 10)) (mPure (.int 0))))) (tgName 8)) (zr g p goal q v r s .un .un .un) = .ok .nx (zr g p goal q v r s (.v (.lst ((som q r.nx).map nD))) .un .un) := by
    exact r_asg (r_settle (some_ok rok hgl) (by rfl)) (by rfl)
  by_cases hop : r.o = p
  · have hm1 : mn g p v = true := by rw [hm]; exact decide_eq_true hop
    have own : mTru (mOp gEq (mVar 5) (mPk 1)) (zr g p goal q v r s (.v (.lst ((som q r.nx).map nD))) .un .un) = .ok true (zr g p goal q v r s (.v (.lst ((som q r.nx).map nD))) .un .un) := r_tru (r_op (r_var rfl) (r_pk rfl) (gEq_ints hop))
    rcases hR.m v hv hg hm1 with ⟨all, e⟩ | ⟨w, hw, k, e1, e2, e3⟩
    · rw [hnx] at all
      have e0 : som q r.nx = [] := som_nil all
      have ie := is_ent (g := g) (p := p) (q := q) (v := v)
      rw [e] at ie
      refine f_rt (z1 := zr g p goal q v r s (.v (.lst ((som q r.nx).map nD))) .un .un) ?_
      refine r_seq start (r_seq two (r_seq three (r_out (r_iteT own (r_out (r_iteT (z1 := zr g p goal q v r s (.v (.lst ((som q r.nx).map nD))) .un .un) ?_ (r_ret ?_)))))))
      · have c : gEq (.lst ((som q r.nx).map nD)) (.lst []) = some (.bl true) := by rw [e0]; exact gEqv_lst id [] []
        exact r_tru (r_op (r_var (by rfl)) (r_settle (r_lst (ds := []) (by rfl) (Nat.zero_le _)) (by rfl)) c)
      · exact r_op (tv0 _ _ _) (by rfl) ie
    · rw [hnx] at hw e3
      have hk : k ∈ som q r.nx := mem_som.mpr ⟨w, hw, e1⟩
      have hmin : ∀ x ∈ som q r.nx, k ≤ x := fun x hx => by
        obtain ⟨u, hu, eu⟩ := mem_som.mp hx
        exact e3 u hu x eu
      obtain ⟨f, hf⟩ : ∃ f, fdn g q v k = some f := by
        cases hf : fdn g q v k with
        | some f => exact ⟨f, rfl⟩
        | none =>
          unfold fdn at hf
          rw [hnx] at hf
          have := List.find?_eq_none.mp hf w hw
          simp [e1] at this
      have en : ent g p q v = .tup [nD (k + 1), nD f] := by
        unfold ent
        rw [e2]
        show (if mn g p v = true then D.tup [nD (k + 1), oD (fdn g q v k)] else _) = _
        rw [if_pos hm1, hf]
        rfl
      have hd : ∃ rest, r.nx.filter (fun w => decide (q.lookup w = some k)) = f :: rest := by
        unfold fdn at hf
        rw [hnx] at hf
        obtain ⟨h1, as, bs, h2, h3⟩ := List.find?_eq_some_iff_append.mp hf
        refine ⟨bs.filter fun w => decide (q.lookup w = some k), ?_⟩
        rw [h2, List.filter_append, List.filter_cons_of_pos (p := fun w => decide (q.lookup w = some k)) h1, List.filter_eq_nil_iff.mpr fun a ha => by have := h3 a ha; simpa using this]
        rfl
      obtain ⟨rest, hd⟩ := hd
      have fo := first_ok (p := p) (goal := goal) (v := v) (s := s) rok hgl hk hmin
      rw [hd] at fo
      have ne : gEq (.lst ((som q r.nx).map nD)) (.lst []) = some (.bl false) := by
        have e4 : (som q r.nx).map nD = ((som q r.nx).map fun (v : Nat) => (v : Int)).map .int := by rw [List.map_map]; rfl
        rw [e4]
        have := gEqv_lst id ((som q r.nx).map fun (v : Nat) => (v : Int)) []
        rw [decide_eq_false (by intro hc; rw [List.map_eq_nil_iff] at hc; rw [hc] at hk; cases hk)] at this
        exact this
      have k1 : gAdd (nD k) (.int 1) = some (nD (k + 1)) := by
        show some (D.int ((k : Int) + 1)) = _
        congr 2
      refine f_rt (z1 := zr g p goal q v r s (.v (.lst ((som q r.nx).map nD))) (.v (nD f)) .un) ?_
      refine r_seq start (r_seq two (r_seq three (r_out (r_iteT own (r_seq (z1 := zr g p goal q v r s (.v (.lst ((som q r.nx).map nD))) .un .un) (r_iteF (z1 := zr g p goal q v r s (.v (.lst ((som q r.nx).map nD))) .un .un) ?_ (by rfl)) (r_seq (z1 := zr g p goal q v r s (.v (.lst ((som q r.nx).map nD))) (.v (nD f)) .un) (r_asg (r_op (r_settle fo (by rfl)) (by rfl) gSubs_l0) (by rfl)) (r_ret ?_)))))))
      · exact r_tru (r_op (r_var (by rfl)) (r_settle (r_lst (ds := []) (by rfl) (Nat.zero_le _)) (by rfl)) ne)
      · exact r_call (r_cons (tv1 en) (r_cons (r_tup (ds := [nD (k + 1), nD f]) (r_cons (r_op (r_un (r_pk (by rfl)) (gMin_n hk hmin)) (by rfl) k1) (r_cons (r_var (by rfl)) (by rfl))) (by show 2 ≤ sizeLine; decide)) (by rfl))) (alike_pair (.inl ⟨_, rfl⟩) (.inl ⟨_, rfl⟩) 1 s)
  · have hm1 : mn g p v = false := by rw [hm]; exact decide_eq_false hop
    have own : mTru (mOp gEq (mVar 5) (mPk 1)) (zr g p goal q v r s (.v (.lst ((som q r.nx).map nD))) .un .un) = .ok false (zr g p goal q v r s (.v (.lst ((som q r.nx).map nD))) .un .un) := r_tru (r_op (r_var rfl) (r_pk rfl) (by rw [gEq_int, decide_eq_false hop]))
    have l8 : gLen (.lst ((som q r.nx).map nD)) = some (nD (som q r.nx).length) := by
      show some (D.int (((som q r.nx).map nD).length : Int)) = _
      rw [List.length_map]
    refine f_rt (z1 := zr g p goal q v r s (.v (.lst ((som q r.nx).map nD))) .un .un) ?_
    refine r_seq start (r_seq two (r_seq three (r_seq (r_iteF own (by rfl)) (r_ret ?_))))
    rcases hR.t v hv hg hm1 with ⟨⟨w, hw, e0⟩, e⟩ | ⟨all, w, hw, k, e1, e2, e3⟩
    · rw [hnx] at hw
      have ie := is_ent (g := g) (p := p) (q := q) (v := v)
      rw [e] at ie
      have ne : gEq (nD (som q r.nx).length) (nD r.nx.length) = some (.bl false) := by
        show gEq (.int _) (.int _) = _
        rw [gEq_int, decide_eq_false]
        intro hc
        obtain ⟨k, hk⟩ := som_len.mp (by omega : (som q r.nx).length = r.nx.length) w hw
        rw [e0] at hk
        cases hk
      exact r_iteF (r_tru (r_op (r_un (r_pk (by rfl)) l8) (r_un (r_pk (by rfl)) (gLen_Ns _)) ne)) (r_op (tv0 _ _ _) (by rfl) ie)
    · rw [hnx] at all hw e3
      have hk : k ∈ som q r.nx := mem_som.mpr ⟨w, hw, e1⟩
      have hmax : ∀ x ∈ som q r.nx, x ≤ k := fun x hx => by
        obtain ⟨u, hu, eu⟩ := mem_som.mp hx
        exact e3 u hu x eu
      have en : ent g p q v = .tup [nD (k + 1), .non] := by
        unfold ent
        rw [e2]
        show (if mn g p v = true then D.tup [nD (k + 1), oD (fdn g q v k)] else _) = _
        rw [if_neg (by rw [hm1]; exact Bool.false_ne_true)]
      have k1 : gAdd (nD k) (.int 1) = some (nD (k + 1)) := by
        show some (D.int ((k : Int) + 1)) = _
        congr 2
      have eq : gEq (nD (som q r.nx).length) (nD r.nx.length) = some (.bl true) := gEq_ints (by rw [som_len.mpr all])
      refine r_iteT (r_tru (r_op (r_un (r_pk (by rfl)) l8) (r_un (r_pk (by rfl)) (gLen_Ns _)) eq)) ?_
      exact r_call (r_cons (tv1 en) (r_cons (r_tup (ds := [nD (k + 1), .non]) (r_cons (r_op (r_un (r_pk (by rfl)) (gMax_n hk hmax)) (by rfl) k1) (r_cons (by rfl) (by rfl))) (by show 2 ≤ sizeLine; decide)) (by rfl))) (alike_pair (.inl ⟨_, rfl⟩) (.inr rfl) 1 s)
end M.K
namespace M.K
open PySem L2 M M.Att
def potK : List Key := [.inr "great", .inr "left", .inr "mixed", .inr "turn"]
def potS (gs : List Int) (l m t : Int) : List SObj := [.lst (gs.map .int), .dic potK [.ref 0, .int l, .int m, .int t]]
def zd (many : Int) (b : B) (gs : List Int) (l m t : Int) : Z := ⟨[.v (.ref 1), .v (.int many), b], potS gs l m t⟩
section
variable {many : Int} {b : B} {gs : List Int} {l m t : Int}
theorem pk_great : getK potK [.ref 0, .int l, .int m, .int t] (.inr "great") = some (.ref 0) := by
  unfold potK getK
  rw [if_pos rfl]
theorem pk_left : getK potK [.ref 0, .int l, .int m, .int t] (.inr "left") = some (.int l) := by
  unfold potK getK
  rw [if_neg (by decide)]
  unfold getK
  rw [if_pos rfl]
theorem pk_mixed : getK potK [.ref 0, .int l, .int m, .int t] (.inr "mixed") = some (.int m) := by
  unfold potK getK
  rw [if_neg (by decide)]
  unfold getK
  rw [if_neg (by decide)]
  unfold getK
  rw [if_pos rfl]
theorem pk_turn : getK potK [.ref 0, .int l, .int m, .int t] (.inr "turn") = some (.int t) := by
  unfold potK getK
  rw [if_neg (by decide)]
  unfold getK
  rw [if_neg (by decide)]
  unfold getK
  rw [if_neg (by decide)]
  unfold getK
  rw [if_pos rfl]
theorem g_get {x : Str} {d : D} (h : getK potK [.ref 0, .int l, .int m, .int t] (.inr x) = some d) : mOpV gSubs (mVar 0) (mPure (.str x)) (zd many b gs l m t) = .ok d (zd many b gs l m t) := by
  refine r_opV (r_var (by rfl)) (by rfl) ?_
  show gDGet (.dic potK [.ref 0, .int l, .int m, .int t]) (.str x) = some d
  exact h
theorem pot_put {x : Str} {d : D} {ds : List D} (h : putDs potK [.ref 0, .int l, .int m, .int t] (.inr x) d = ds) (hk : hasK potK (.inr x) = true) : putO (.dic potK [.ref 0, .int l, .int m, .int t]) (.str x) d = some (.dic potK ds) := by
  show (if potK.length < sizeLine then some (SObj.dic (putKs potK (.inr x)) (putDs potK [.ref 0, .int l, .int m, .int t] (.inr x) d)) else none) = _
  rw [if_pos (by show 4 < sizeLine; decide), h]
  unfold putKs
  rw [if_pos hk]
theorem pd_left {d : D} : putDs potK [.ref 0, .int l, .int m, .int t] (.inr "left") d = [.ref 0, d, .int m, .int t] := by
  unfold putDs
  rw [if_pos (by decide)]
  rfl
theorem pd_mixed {d : D} : putDs potK [.ref 0, .int l, .int m, .int t] (.inr "mixed") d = [.ref 0, .int l, d, .int t] := by
  unfold putDs
  rw [if_pos (by decide)]
  rfl
theorem pd_turn {d : D} : putDs potK [.ref 0, .int l, .int m, .int t] (.inr "turn") d = [.ref 0, .int l, .int m, d] := by
  unfold putDs
  rw [if_pos (by decide)]
  rfl
theorem s_put {x : Str} {d : D} {o' : SObj} (h : putO (.dic potK [.ref 0, .int l, .int m, .int t]) (.str x) d = some o') : tgSub (mVar 0) (mPure (.str x)) d (zd many b gs l m t) = .ok () ⟨(zd many b gs l m t).e, [.lst (gs.map .int), o']⟩ := by
  unfold tgSub mBind mVar zd potS
  simp only [List.getElem?_cons_zero, mPure, List.getElem?_cons_succ, Option.bind_some, h, List.set]
end
theorem fmod_n (i : Int) {j : Int} (hj : 0 < j) : ∃ r : Nat, i.fmod j = (r : Int) ∧ (r : Int) < j := by
  have h1 : 0 ≤ i.fmod j := Int.fmod_nonneg_of_pos i hj
  have h2 : i.fmod j < j := Int.fmod_lt_of_pos i hj
  exact ⟨(i.fmod j).toNat, by omega, by omega⟩
theorem r_spop0 {z z1 : Z} {mx : Mi D} {n : Nat} {d : D} {ds : List D} (hx : mx z = .ok (.ref n) z1) (h0 : z1.s[n]? = some (.lst (d :: ds))) : mSPop mx (mPure (.int 0)) z = .ok d ⟨z1.e, z1.s.set n (.lst ds)⟩ := by
  have hs : seqIndex? 0 (d :: ds).length = some 0 := by
    have := seqIndex_of (k := 0) (n := (d :: ds).length) (Int.le_refl 0) (by rw [List.length_cons]; omega)
    exact this
  unfold mSPop mBind
  simp only [hx, h0, mPure]
  rw [if_pos ⟨by omega, by omega⟩]
  simp only [hs]
  rfl
theorem gNe_nil (gs : List Int) : gNe (.lst (gs.map .int)) (.lst []) = some (.bl (!decide (gs = []))) := gEqv_lst not gs []
/-- a die: a number below many, whatever the pot holds -/
theorem die_ok {many : Nat} (hm : 1 ≤ many) (hm2 : many < 1073741824) (gs : List Int) (l m t : Int) : ∃ (r : Nat) (gs' : List Int) (l' m' t' : Int), f__law_die [.ref 1, nD many] (potS gs l m t) = .ok (nD r) (potS gs' l' m' t') ∧ r < many := by
  -- the first part
  have one : ∃ gs1 l1, (mIte (mAnd (mTru (mOpV gEq (mOpV gSubs (mVar 0) (mPure (.str ("left" : Str)))) (mPure (.int 0)))) (mTru (mOpV gNe (mOpV gSubs (mVar 0) (mPure (.str ("great" : Str)))) (mSettle (mLst (mPure [])))))) (mAsg2 (mSPop (mOpV gSubs (mVar 0) (mPure (.str ("great" : Str)))) (mPure (.int 0))) (tgSub (mVar 0) (mPure (.str ("left" : Str))))) (mFl .nx)) (zd many .un gs l m t) = .ok .nx (zd many .un gs1 l1 m t) := by
    by_cases hl : l = 0
    · have a1 : mTru (mOpV gEq (mOpV gSubs (mVar 0) (mPure (.str ("left" : Str)))) (mPure (.int 0))) (zd many .un gs l m t) = .ok true (zd many .un gs l m t) := r_tru (r_opV (g_get pk_left) rfl (gEq_ints hl))
      have a2 : mTru (mOpV gNe (mOpV gSubs (mVar 0) (mPure (.str ("great" : Str)))) (mSettle (mLst (mPure [])))) (zd many .un gs l m t) = .ok (!decide (gs = [])) (zd many .un gs l m t) := r_tru (r_opV (g_get pk_great) (r_settle (r_lst (ds := []) rfl (Nat.zero_le _)) rfl) (gNe_nil gs))
      cases gs with
      | nil => exact ⟨[], l, r_iteF (r_andT a1 a2) rfl⟩
      | cons x gs =>
        refine ⟨gs, x, r_iteT (r_andT a1 a2) (r_asg2 (u := ()) (d := .int x) (z1 := zd many .un gs l m t) ?_ ?_)⟩
        · exact r_spop0 (g_get (many := many) (b := .un) (gs := x :: gs) (m := m) (t := t) (l := l) pk_great) rfl
        · exact s_put (pot_put pd_left (by decide))
    · refine ⟨gs, l, r_iteF (r_andF (r_tru (r_opV (g_get pk_left) rfl (by show gEq (.int l) (.int 0) = _; rw [gEq_int, decide_eq_false hl])))) rfl⟩
  obtain ⟨gs1, l1, one⟩ := one
  have hmp : (0 : Int) < (many : Int) := by omega
  by_cases hl : 0 < l1
  · obtain ⟨r, hr, hrl⟩ := fmod_n l1 hmp
    refine ⟨r, gs1, l1.fdiv many, m, t, ?_, by omega⟩
    have gm : gMod (.int l1) (nD many) = some (nD r) := by
      show (if decide ((many : Int) ≠ 0) = true then some (D.int (l1.fmod many)) else none) = _
      rw [if_pos (by simp; omega), hr]
    have gd : gFdiv (.int l1) (nD many) = some (.int (l1.fdiv many)) := by
      show (if cDiv l1 many = true then some (D.int (l1.fdiv many)) else none) = _
      rw [if_pos (by unfold cDiv; simp; omega)]
    have tup : (mTup (mCons (mOp gMod (mUn gInt (mView (mOpV gSubs (mVar 0) (mPure (.str ("left" : Str)))))) (mPk 1)) (mCons (mOp gFdiv (mOpV gSubs (mVar 0) (mPure (.str ("left" : Str)))) (mPk 1)) (mPure [])))) (zd many .un gs1 l1 m t) = .ok (.tup [nD r, .int (l1.fdiv many)]) (zd many .un gs1 l1 m t) := by
      exact r_tup (r_cons (r_op (r_un (r_view (g_get pk_left)) (by rfl)) (r_pk (by rfl)) gm) (r_cons (r_op (g_get pk_left) (r_pk (by rfl)) gd) (by rfl))) (by show 2 ≤ sizeLine; decide)
    have st : (tg2Tup 2 (tgs2Cons (tgOne (tgName 2)) (tgs2Cons (tgSub (mVar 0) (mPure (.str ("left" : Str)))) tgs2Nil))) (.tup [nD r, .int (l1.fdiv many)]) (zd many .un gs1 l1 m t) = .ok () (zd many (.v (nD r)) gs1 (l1.fdiv many) m t) := by
      have := s_put (many := many) (b := .v (nD r)) (gs := gs1) (l := l1) (m := m) (t := t) (d := .int (l1.fdiv many)) (pot_put pd_left (by decide))
      show (match tgSub (mVar 0) (mPure (.str ("left" : Str))) (.int (l1.fdiv many)) (zd many (.v (nD r)) gs1 l1 m t) with
        | .ok _ z' => tgs2Nil [] z'
        | r => r) = _
      rw [this]
      rfl
    refine f_rt (z1 := zd many (.v (nD r)) gs1 (l1.fdiv many) m t) ?_
    refine r_seq one (r_out (r_iteT (r_tru (r_op (g_get pk_left) (by rfl) (gGt_t hl))) (r_seq (r_asg2 tup st) (r_ret (r_var (by rfl))))))
  · -- no great one left
    have t1 : gAdd (.int t) (.int 1) = some (.int (t + 1)) := rfl
    have st1 : (mAsg2 (mOp gAdd (mOpV gSubs (mVar 0) (mPure (.str ("turn" : Str)))) (mPure (.int 1))) (tgSub (mVar 0) (mPure (.str ("turn" : Str))))) (zd many .un gs1 l1 m t) = .ok .nx (zd many .un gs1 l1 m (t + 1)) := r_asg2 (r_op (g_get pk_turn) rfl t1) (s_put (pot_put pd_turn (by decide)))
    have mul1 : gMul (.int m) (.int 48271) = some (.int (m * 48271)) := by
      show (match (if cMul m 48271 = true then some (D.int (m * 48271)) else none) with
        | some d => some d
        | none => gRep (.int m) (.int 48271)) = _
      rw [if_pos (by unfold cMul; exact decide_eq_true (.inr ⟨by decide, by decide⟩))]
    have mul2 : gMul (.int (t + 1)) (.int 7919) = some (.int ((t + 1) * 7919)) := by
      show (match (if cMul (t + 1) 7919 = true then some (D.int ((t + 1) * 7919)) else none) with
        | some d => some d
        | none => gRep (.int (t + 1)) (.int 7919)) = _
      rw [if_pos (by unfold cMul; exact decide_eq_true (.inr ⟨by decide, by decide⟩))]
    have mod1 : gMod (.int (m * 48271 + (t + 1) * 7919 + 11)) (.int 2147483647) = some (.int ((m * 48271 + (t + 1) * 7919 + 11).fmod 2147483647)) := rfl
    have st2 : (mAsg2 (mOp gMod (mUn gInt (mOp gAdd (mOp gAdd (mOp gMul (mOpV gSubs (mVar 0) (mPure (.str ("mixed" : Str)))) (mPure (.int 48271))) (mOp gMul (mOpV gSubs (mVar 0) (mPure (.str ("turn" : Str)))) (mPure (.int 7919)))) (mPure (.int 11)))) (mPure (.int 2147483647))) (tgSub (mVar 0) (mPure (.str ("mixed" : Str))))) (zd many .un gs1 l1 m (t + 1)) =
        .ok .nx (zd many .un gs1 l1 ((m * 48271 + (t + 1) * 7919 + 11).fmod 2147483647) (t + 1)) := r_asg2 (r_op (r_un (r_op (r_op (r_op (g_get pk_mixed) rfl mul1) (r_op (g_get pk_turn) rfl mul2) rfl) rfl rfl) rfl) rfl mod1) (s_put (pot_put pd_mixed (by decide)))
    obtain ⟨r, hr, hrl⟩ := fmod_n (((m * 48271 + (t + 1) * 7919 + 11).fmod 2147483647).fdiv 13) hmp
    have fd : gFdiv (.int ((m * 48271 + (t + 1) * 7919 + 11).fmod 2147483647)) (.int 13) = some (.int (((m * 48271 + (t + 1) * 7919 + 11).fmod 2147483647).fdiv 13)) := rfl
    have gm : gMod (.int (((m * 48271 + (t + 1) * 7919 + 11).fmod 2147483647).fdiv 13)) (nD many) = some (nD r) := by
      show (if decide ((many : Int) ≠ 0) = true then some (D.int ((((m * 48271 + (t + 1) * 7919 + 11).fmod 2147483647).fdiv 13).fmod many)) else none) = _
      rw [if_pos (by simp; omega), hr]
    refine ⟨r, gs1, l1, (m * 48271 + (t + 1) * 7919 + 11).fmod 2147483647, t + 1, ?_, by omega⟩
    refine f_rt (z1 := zd many .un gs1 l1 ((m * 48271 + (t + 1) * 7919 + 11).fmod 2147483647) (t + 1)) ?_
    refine r_seq one (r_seq (r_iteF (r_tru (r_op (g_get pk_left) (by rfl) (gGt_f hl))) (by rfl)) (r_seq st1 (r_seq st2 (r_ret ?_))))
    exact r_op (r_un (r_op (g_get pk_mixed) (by rfl) fd) (by rfl)) (r_pk (by rfl)) gm
end M.K
namespace M.K
open PySem L2 M M.Att
def Pot (s : List SObj) : Prop := ∃ gs l m t, s = potS gs l m t
theorem die {many : Nat} (hm : 1 ≤ many) (hm2 : many ≤ 1000) {s : List SObj} (hs : Pot s) : ∃ r s', Pot s' ∧ f__law_die [.ref 1, nD many] s = .ok (nD r) s' ∧ r < many := by
  obtain ⟨gs, l, m, t, rfl⟩ := hs
  obtain ⟨r, gs', l', m', t', e, h⟩ := die_ok hm (by omega) gs l m t
  exact ⟨r, _, ⟨gs', l', m', t', rfl⟩, e, h⟩
theorem r_popAt {z : Z} {e1 : List B} {s1 : List SObj} {m : Mi D} {i k : Nat} {ds : List D} {d : D} (h0 : ∃ ds0, z.e[i]? = some (.ml ds0)) (hm : m z = .ok (nD k) ⟨e1, s1⟩) (h1 : e1[i]? = some (.ml ds)) (hd : ds[k]? = some d) (hl : ds.length ≤ 1000) : mPopAt i m z = .ok d ⟨e1.set i (.ml (ds.eraseIdx k)), s1⟩ := by
  obtain ⟨ds0, h0⟩ := h0
  have hk : k < ds.length := (List.getElem?_eq_some_iff.mp hd).1
  have hs : seqIndex? (k : Int) ds.length = some k := by
    have := seqIndex_of (k := (k : Int)) (n := ds.length) (by omega) (by omega)
    rw [Int.toNat_natCast] at this
    exact this
  unfold mPopAt mBind
  simp only [h0, hm, h1]
  rw [if_pos ⟨by omega, by omega⟩]
  simp only [hs, hd]
theorem map_erase {α β : Type} (f : α → β) : ∀ (l : List α) (k : Nat), (l.map f).eraseIdx k = (l.eraseIdx k).map f
  | [], _ => rfl
  | _ :: _, 0 => rfl
  | x :: l, k + 1 => by
    show f x :: (l.map f).eraseIdx k = f x :: (l.eraseIdx k).map f
    rw [map_erase f l k]
theorem perm_erase {α : Type} : ∀ {l : List α} {k : Nat} (h : k < l.length), (l[k] :: l.eraseIdx k).Perm l
  | x :: l, 0, _ => .refl _
  | x :: l, k + 1, h => by
    have ih := perm_erase (l := l) (k := k) (by simpa using h)
    show (l[k]'(by simpa using h) :: x :: l.eraseIdx k).Perm (x :: l)
    exact (List.Perm.swap _ _ _).trans (ih.cons x)
theorem mixed_ok (l : List Nat) (hl : l.length ≤ 100) {s : List SObj} (hs : Pot s) : ∃ (l' : List Nat) (s' : List SObj), Pot s' ∧ l'.Perm l ∧ f__law_mixed [.ref 1, .lst (l.map nD)] s = .ok (.lst (l'.map nD)) s' := by
  have step := for_inv (t := tgName 4) (b := mDrop (mApp 3 (mPopAt 2 (mCall 2 f__law_die (mCons (mVar 0) (mCons (mUn gLen (mPk 2)) (mPure [])))))))
    (fun j z => ∃ (left found : List Nat) (s' : List SObj) (b : B), z = ⟨[.v (.ref 1), .v (.lst (l.map nD)), .ml (left.map nD), .ml (found.map nD), b], s'⟩ ∧ Pot s' ∧ left.length + j = l.length ∧ (found ++ left).Perm l)
    ((List.range l.length).map nD) 0 ⟨[.v (.ref 1), .v (.lst (l.map nD)), .ml (l.map nD), .ml [], .un], s⟩ (fun j d hd z hz => by
      rw [Nat.zero_add] at hz ⊢
      obtain ⟨left, found, s', b, rfl, hs', hlen, hp⟩ := hz
      have hj : j < l.length := by
        have := (List.getElem?_eq_some_iff.mp hd).1
        rwa [List.length_map, List.length_range] at this
      obtain ⟨r, s2, hs2, er, hr⟩ := die (many := left.length) (by omega) (by omega) hs'
      have gl : gLen (.lst (left.map nD)) = some (nD left.length) := by
        show some (D.int ((left.map nD).length : Int)) = _
        rw [List.length_map]
      have pop := r_popAt (i := 2) (z := ⟨[.v (.ref 1), .v (.lst (l.map nD)), .ml (left.map nD), .ml (found.map nD), .v d], s'⟩) (m := mCall 2 f__law_die (mCons (mVar 0) (mCons (mUn gLen (mPk 2)) (mPure [])))) (k := r) (ds := left.map nD) (d := nD left[r]) ⟨_, rfl⟩ (r_call (r_cons (r_var rfl) (r_cons (r_un (r_pk rfl) gl) rfl)) er) rfl (by rw [List.getElem?_map, List.getElem?_eq_getElem hr]; rfl) (by rw [List.length_map]; omega)
      have fl : found.length ≤ 100 := by
        have := hp.length_eq
        rw [List.length_append] at this
        omega
      have app := r_app (i := 3) (z := ⟨[.v (.ref 1), .v (.lst (l.map nD)), .ml (left.map nD), .ml (found.map nD), .v d], s'⟩) (ds2 := found.map nD) ⟨_, rfl⟩ pop rfl (by rw [List.length_map]; exact lt_line (by omega))
      refine ⟨_, rfl, .nx, _, r_drop app, .inl rfl, left.eraseIdx r, found ++ [left[r]], s2, .v d, ?_, hs2, ?_, ?_⟩
      · show Z.mk _ _ = Z.mk _ _
        congr 1
        simp only [List.set, List.map_append, List.map_cons, List.map_nil]
        congr 3
        rw [map_erase]
      · rw [List.length_eraseIdx_of_lt hr]; omega
      · rw [List.append_assoc]
        exact ((perm_erase hr).append_left found).trans hp) ⟨l, [], s, .un, rfl, hs, rfl, by simp⟩
  obtain ⟨z', run, left, found, s', b, rfl, hs', hlen, hp⟩ := step
  rw [List.length_map, List.length_range, Nat.zero_add] at hlen
  have hnil : left = [] := List.length_eq_zero_iff.mp (by omega)
  subst hnil
  rw [List.append_nil] at hp
  refine ⟨found, s', hs', hp, ?_⟩
  have gl : gLen (.lst (l.map nD)) = some (nD l.length) := by
    show some (D.int ((l.map nD).length : Int)) = _
    rw [List.length_map]
  refine f_rt (z1 := ⟨[.v (.ref 1), .v (.lst (l.map nD)), .ml [], .v (.lst (found.map nD)), b], s'⟩) ?_
  refine r_seq (z1 := ⟨[.v (.ref 1), .v (.lst (l.map nD)), .ml (l.map nD), .ml [], .un], s⟩) (by rfl) ?_
  refine r_seq (r_for (r_range (r_un (r_pk (by rfl)) gl) (by omega)) run) ?_
  exact r_ret (by rfl)
theorem one_ok {ds : List D} (hne : gNe (.lst ds) (.lst []) = some (.bl true)) (hl : 1 ≤ ds.length) (hl2 : ds.length ≤ 100) {s : List SObj} (hs : Pot s) : ∃ d s', Pot s' ∧ d ∈ ds ∧ f__law_one [.ref 1, .lst ds] s = .ok d s' := by
  obtain ⟨r, s2, hs2, er, hr⟩ := die (many := ds.length) (by omega) (by omega) hs
  refine ⟨ds[r], s2, hs2, List.getElem_mem hr, ?_⟩
  refine f_rt (z1 := ⟨[.v (.ref 1), .v (.lst ds)], s2⟩) ?_
  refine r_ret (r_iteT (r_tru (r_op (r_var (by rfl)) (r_settle (r_lst (ds := []) (by rfl) (Nat.zero_le _)) (by rfl)) hne)) ?_)
  exact r_op (r_var (by rfl)) (r_call (r_cons (r_var (by rfl)) (r_cons (r_un (r_pk (by rfl)) (by rfl)) (by rfl))) er) (by rw [gSubs_ln, List.getElem?_eq_getElem hr])
end M.K
namespace M.K
open PySem L2 M M.Att
theorem cut_take (ds : List D) (k : Nat) : cutD ds none (some (k : Int)) = ds.take k := by
  unfold cutD
  have e0 : HT.sIx ds.length 0 none = 0 := rfl
  have e1 : HT.sIx ds.length ds.length (some (k : Int)) = min k ds.length := by
    unfold HT.sIx
    simp
    try omega
  rw [e0, e1, List.drop_zero, Nat.sub_zero]
  by_cases h : k ≤ ds.length
  · rw [Nat.min_eq_left h]
  · rw [Nat.min_eq_right (by omega), List.take_of_length_le (Nat.le_refl _), List.take_of_length_le (by omega)]
theorem r_sl {z z1 z2 : Z} {m mh : Mi D} {ds : List D} {k : Nat} (h : m z = .ok (.lst ds) z1) (hh : mh z1 = .ok (nD k) z2) : mSl m (mPure none) (mBind mh fun d => mLift ((toI d).map some)) z = .ok (.lst (ds.take k)) z2 := by
  unfold mSl mBind
  simp only [h, mPure, hh]
  show (match (R.ok (some (k : Int)) z2 : R (Option Int)) with
    | .ok a z' => (mLift (gSlT (.lst ds) none a)) z'
    | .ex c z' => .ex c z'
    | .no => .no) = _
  show mLift (some (D.lst (cutD ds none (some (k : Int))))) z2 = _
  rw [cut_take]
  rfl
theorem gTuple_l (ds : List D) : gTuple (.lst ds) = some (.tup ds) := rfl
theorem gMin2_n (a b : Nat) : gMin2 (nD a) (nD b) = some (nD (min b a)) := by
  show some (D.int (if (b : Int) < (a : Int) then (b : Int) else (a : Int))) = some (D.int ((min b a : Nat) : Int))
  congr 2
  split <;> omega
theorem gAdd_n (a b : Nat) : gAdd (nD a) (nD b) = some (nD (a + b)) := by
  show some (D.int ((a : Int) + (b : Int))) = _
  congr 2
theorem ne3 : gNe (.lst [.int 3]) (.lst []) = some (.bl true) := gEqv_lst not [3] []
theorem listR (z : Z) {m : Mi D} {z1 : Z} {n : Nat} (h : m z = .ok (nD n) z1) (hn : n ≤ 1000) : mListR1 m z = .ok (.ml ((List.range n).map nD)) z1 := by
  unfold mListR1 mBind
  simp only [h]
  rw [if_pos ⟨by omega, by omega⟩, Int.toNat_natCast, upto0]
  rfl
def zg (many : Nat) (ds : List D) (s : List SObj) (b5 b6 : B) : Z := ⟨[.v (.ref 1), .v (nD many), .v (.lst [.int 3]), .v (.int 4), .ml ds, b5, b6], s⟩
/-- a game is drawn -/
theorem game_ok {many : Nat} (hm : 1 ≤ many) (hm2 : many ≤ 60) {s : List SObj} (hs : Pot s) : ∃ (g : List Row) (s' : List SObj), Pot s' ∧ GOk g ∧ g.length = many ∧ f__law_game [.ref 1, nD many, .lst [.int 3], .int 4] s = .ok (dG g) s' := by
  have step := for_inv (t := tgName 5) (b := (mSeq (mAsg (mUn gTuple (mSl (mCall 2 f__law_mixed (mCons (mVar 0) (mCons (mSettle (mListR1 (mVar 1))) (mPure [])))) (mPure none) (mBind (mOp gAdd (mPure (.int 1)) (mCall 2 f__law_die (mCons (mVar 0) (mCons (mBin gMin2 (mVar 3) (mVar 1)) (mPure []))))) fun d => mLift ((toI d).map some)))) (tgName 6))
      (mDrop (mApp 4 (mTup (mCons (mCall 2 f__law_die (mCons (mVar 0) (mCons (mPure (.int 2)) (mPure [])))) (mCons (mCall 2 f__law_one (mCons (mVar 0) (mCons (mVar 2) (mPure [])))) (mCons (mVar 6) (mPure [])))))))))
    (fun j z => ∃ (g : List Row) (s' : List SObj) (b5 b6 : B), z = zg many (g.map dRow) s' b5 b6 ∧ Pot s' ∧ g.length = j ∧ ∀ r ∈ g, RowOk many r)
    ((List.range many).map nD) 0 (zg many [] s .un .un) (fun j d hd z hz => by
      rw [Nat.zero_add] at hz ⊢
      obtain ⟨g, s1, b5, b6, rfl, hs1, hlen, hrow⟩ := hz
      have hj : j < many := by
        have := (List.getElem?_eq_some_iff.mp hd).1
        rwa [List.length_map, List.length_range] at this
      obtain ⟨l', s2, hs2, hperm, em⟩ := mixed_ok (List.range many) (by rw [List.length_range]; omega) hs1
      obtain ⟨r, s3, hs3, er, hr⟩ := die (many := min many 4) (by omega) (by omega) hs2
      obtain ⟨o, s4, hs4, eo, ho⟩ := die (many := 2) (by omega) (by omega) hs3
      obtain ⟨m, s5, hs5, hmem, e1⟩ := one_ok (ds := [.int 3]) ne3 (Nat.le_refl _) (by show 1 ≤ 100; omega) hs4
      have hm3 : m = .int 3 := by simpa using hmem
      subst hm3
      have hl' : l'.length = many := by have := hperm.length_eq; rwa [List.length_range] at this
      have run1 : (mAsg (mUn gTuple (mSl (mCall 2 f__law_mixed (mCons (mVar 0) (mCons (mSettle (mListR1 (mVar 1))) (mPure [])))) (mPure none) (mBind (mOp gAdd (mPure (.int 1)) (mCall 2 f__law_die (mCons (mVar 0) (mCons (mBin gMin2 (mVar 3) (mVar 1)) (mPure []))))) fun d => mLift ((toI d).map some)))) (tgName 6)) (zg many (g.map dRow) s1 (.v d) b6) =
          .ok .nx (zg many (g.map dRow) s3 (.v d) (.v (dNs (l'.take (1 + r))))) := by
        have a1 : mCall 2 f__law_mixed (mCons (mVar 0) (mCons (mSettle (mListR1 (mVar 1))) (mPure []))) (zg many (g.map dRow) s1 (.v d) b6) = .ok (.lst (l'.map nD)) (zg many (g.map dRow) s2 (.v d) b6) :=
          r_call (r_cons (r_var rfl) (r_cons (r_settle (listR _ (r_var rfl) (by omega)) rfl) rfl)) em
        have a2 : mOp gAdd (mPure (.int 1)) (mCall 2 f__law_die (mCons (mVar 0) (mCons (mBin gMin2 (mVar 3) (mVar 1)) (mPure [])))) (zg many (g.map dRow) s2 (.v d) b6) = .ok (nD (1 + r)) (zg many (g.map dRow) s3 (.v d) b6) :=
          r_op rfl (r_call (r_cons (r_var rfl) (r_cons (r_bin (r_var rfl) (r_var rfl) (gMin2_n 4 many)) rfl)) er) (gAdd_n 1 r)
        have en : gTuple (.lst ((l'.map nD).take (1 + r))) = some (dNs (l'.take (1 + r))) := by rw [gTuple_l]; unfold dNs; rw [List.map_take]
        exact r_asg (r_un (r_sl a1 a2) en) rfl
      have run2 : (mDrop (mApp 4 (mTup (mCons (mCall 2 f__law_die (mCons (mVar 0) (mCons (mPure (.int 2)) (mPure [])))) (mCons (mCall 2 f__law_one (mCons (mVar 0) (mCons (mVar 2) (mPure [])))) (mCons (mVar 6) (mPure []))))))) (zg many (g.map dRow) s3 (.v d) (.v (dNs (l'.take (1 + r))))) =
          .ok .nx (zg many (g.map dRow ++ [.tup [nD o, .int 3, dNs (l'.take (1 + r))]]) s5 (.v d) (.v (dNs (l'.take (1 + r))))) := by
        have tup : mTup (mCons (mCall 2 f__law_die (mCons (mVar 0) (mCons (mPure (.int 2)) (mPure [])))) (mCons (mCall 2 f__law_one (mCons (mVar 0) (mCons (mVar 2) (mPure [])))) (mCons (mVar 6) (mPure [])))) (zg many (g.map dRow) s3 (.v d) (.v (dNs (l'.take (1 + r))))) = .ok (.tup [nD o, .int 3, dNs (l'.take (1 + r))]) (zg many (g.map dRow) s5 (.v d) (.v (dNs (l'.take (1 + r))))) :=
          r_tup (r_cons (r_call (r_cons (r_var rfl) (r_cons rfl rfl)) eo) (r_cons (r_call (r_cons (r_var rfl) (r_cons (r_var rfl) rfl)) e1) (r_cons (r_var rfl) rfl))) (by show 3 ≤ sizeLine; decide)
        exact r_drop (r_app (ds2 := g.map dRow) ⟨_, rfl⟩ tup rfl (by rw [List.length_map]; exact lt_line (by omega)))
      refine ⟨zg many (g.map dRow) s1 (.v d) b6, rfl, .nx, zg many (g.map dRow ++ [.tup [nD o, .int 3, dNs (l'.take (1 + r))]]) s5 (.v d) (.v (dNs (l'.take (1 + r)))), r_seq run1 run2, .inl rfl, g ++ [Row.mk (o : Int) 3 (l'.take (1 + r))], s5, .v d, .v (dNs (l'.take (1 + r))), ?_, hs5, by rw [List.length_append, hlen]; rfl, fun x hx => ?_⟩
      · rw [List.map_append]; rfl
      · rcases List.mem_append.mp hx with hx | hx
        · exact hrow x hx
        · have : x = Row.mk (o : Int) 3 (l'.take (1 + r)) := by simpa using hx
          rw [this]
          refine ⟨by show (o : Int) = 0 ∨ (o : Int) = 1; omega, rfl, ?_, ?_, fun v hv => ?_⟩
          · intro hc
            have hc : l'.take (1 + r) = [] := hc
            have := congrArg List.length hc
            rw [List.length_take] at this
            have : min (1 + r) l'.length = 0 := this
            omega
          · exact List.Nodup.sublist (List.take_sublist _ _) (hperm.nodup_iff.mpr List.nodup_range)
          · exact List.mem_range.mp (hperm.mem_iff.mp (List.mem_of_mem_take hv))) ⟨[], s, .un, .un, rfl, hs, rfl, fun _ h => by cases h⟩
  obtain ⟨z', run, g, s', b5, b6, rfl, hs', hlen, hrow⟩ := step
  rw [List.length_map, List.length_range, Nat.zero_add] at hlen
  refine ⟨g, s', hs', ⟨by omega, by omega, fun r hr => by rw [hlen]; exact hrow r hr⟩, hlen, ?_⟩
  refine f_rt (z1 := zg many (g.map dRow) s' b5 b6) ?_
  refine r_seq (z1 := zg many [] s .un .un) (r_own (r_lst (ds := []) (by rfl) (Nat.zero_le _))) ?_
  refine r_seq (r_for (r_range (r_var (by rfl)) (by omega)) run) ?_
  exact r_ret (r_un (r_pk (by rfl)) (by rfl))
end M.K
namespace M.K
open PySem L2 M M.Att
theorem r_slf {z z1 z2 : Z} {m mh : Mi D} {ds : List D} {k : Nat} (h : m z = .ok (.fz ds) z1) (hh : mh z1 = .ok (nD k) z2) : mSl m (mPure none) (mBind mh fun d => mLift ((toI d).map some)) z = .ok (.lst (ds.take k)) z2 := by
  unfold mSl mBind
  simp only [h, mPure, hh]
  show (match (R.ok (some (k : Int)) z2 : R (Option Int)) with
    | .ok a z' => (mLift (gSlT (.fz ds) none a)) z'
    | .ex c z' => .ex c z'
    | .no => .no) = _
  show mLift (some (D.lst (cutD ds none (some (k : Int))))) z2 = _
  rw [cut_take]
  rfl
theorem merge4 (a b c d : D) : mergeD ([], []) potK [a, b, c, d] = (potK, [a, b, c, d]) := by
  unfold potK
  have h1 : hasK [(.inr "great" : Key)] (.inr "left") = false := by decide
  have h2 : hasK [(.inr "great" : Key), .inr "left"] (.inr "mixed") = false := by decide
  have h3 : hasK [(.inr "great" : Key), .inr "left", .inr "mixed"] (.inr "turn") = false := by decide
  have h0 : hasK ([] : List Key) (.inr "great") = false := rfl
  simp only [mergeD, putKs, putDs, h0, Bool.false_eq_true, if_false, List.nil_append, h1, List.cons_append, h2, h3]
theorem r_share {z : Z} {mB : Mi B} {b : B} {o : SObj} {e1 : List B} {s1 : List SObj} (h : mB z = .ok b ⟨e1, s1⟩) (hb : shB b = some o) : mShare mB z = .ok (.ref s1.length) ⟨e1, s1 ++ [o]⟩ := by
  unfold mShare mBind
  simp only [h, hb]
theorem r_disp {z z1 : Z} {r : List (Mi D × Mi D)} {ks ds : List D} {kk a : List Key} {b : List D} (h : mPairs r z = .ok (ks, ds) z1) (hk : toKeys ks = some kk) (hl : ks.length ≤ 15) (hm : mergeD ([], []) kk ds = (a, b)) : mDisp r z = .ok (.md a b) z1 := by
  unfold mDisp mBind
  simp only [h, hk]
  rw [if_pos hl, hm]
  rfl
theorem r_pcons {z z1 z2 z3 : Z} {mk mv : Mi D} {k v : D} {r : List (Mi D × Mi D)} {ks ds : List D} (hk : mk z = .ok k z1) (hv : mv z1 = .ok v z2) (hr : mPairs r z2 = .ok (ks, ds) z3) : mPairs ((mk, mv) :: r) z = .ok (k :: ks, v :: ds) z3 := by
  unfold mPairs mBind
  simp only [hk, hv, hr]
  rfl
def isGreat : D → Bool
  | .int i => decide ((10 : Int) ^ 18 ≤ i)
  | _ => false
theorem pot_ok (ns : List Int) (hn : ns.length ≤ 63) : ∃ s', Pot s' ∧ f__law_pot [.fz (ns.map .int)] [] = .ok (.ref 1) s' := by
  have sl : ∀ m b, (mItems (mSl (mVar 0) (mPure none) (mBind (mPure (.int 63)) fun d => mLift ((toI d).map some)))) ⟨[.v (.fz (ns.map .int)), .v (.int m), b], []⟩ = .ok (ns.map .int) ⟨[.v (.fz (ns.map .int)), .v (.int m), b], []⟩ := fun m b => by
    have := r_slf (z := ⟨[.v (.fz (ns.map .int)), .v (.int m), b], []⟩) (m := mVar 0) (mh := mPure (.int 63)) (k := 63) (r_var rfl) rfl
    rw [List.take_of_length_le (by rw [List.length_map]; exact hn)] at this
    exact r_items this rfl
  have step := for_inv (t := tgName 2) (b := (mAsg (mOp gMod (mUn gInt (mOp gAdd (mOp gAdd (mOp gMul (mVar 1) (mPure (.int 16807))) (mOp gMod (mUn gInt (mPk 2)) (mPure (.int 1000003)))) (mPure (.int 12345)))) (mPure (.int 2147483647))) (tgName 1)))
    (fun j z => ∃ m b, z = ⟨[.v (.fz (ns.map .int)), .v (.int m), b], []⟩) (ns.map .int) 0 ⟨[.v (.fz (ns.map .int)), .v (.int 50021), .un], []⟩ (fun j d hd z hz => by
      obtain ⟨m, b, rfl⟩ := hz
      obtain ⟨c, hc, rfl⟩ := List.mem_map.mp (List.mem_of_getElem? hd)
      have mul1 : gMul (.int m) (.int 16807) = some (.int (m * 16807)) := by
        show (match (if cMul m 16807 = true then some (D.int (m * 16807)) else none) with
          | some d => some d
          | none => gRep (.int m) (.int 16807)) = _
        rw [if_pos (by unfold cMul; exact decide_eq_true (.inr ⟨by decide, by decide⟩))]
      have mod1 : gMod (.int c) (.int 1000003) = some (.int (c.fmod 1000003)) := rfl
      have mod2 : gMod (.int (m * 16807 + c.fmod 1000003 + 12345)) (.int 2147483647) = some (.int ((m * 16807 + c.fmod 1000003 + 12345).fmod 2147483647)) := rfl
      refine ⟨_, rfl, .nx, ⟨[.v (.fz (ns.map .int)), .v (.int ((m * 16807 + c.fmod 1000003 + 12345).fmod 2147483647)), .v (.int c)], []⟩, ?_, .inl rfl, _, _, rfl⟩
      exact r_asg (r_op (r_un (r_op (r_op (r_op (r_var rfl) rfl mul1) (r_op (r_un (r_pk rfl) rfl) rfl mod1) rfl) rfl rfl) rfl) rfl mod2) rfl) ⟨50021, .un, rfl⟩
  obtain ⟨z', run, m, b, rfl⟩ := step
  have comp := lc_ok (vs := [2]) (t := tgName 2) (c := mTru (mOp gGe (mVar 2) (mOp gPow (mPure (.int 10)) (mPure (.int 18))))) (m := mUn gInt (mPk 2)) isGreat id (sl m b) (by rw [List.length_map]; exact small (by omega)) fun d hd => by
    obtain ⟨c, hc, rfl⟩ := List.mem_map.mp hd
    refine ⟨⟨[.v (.fz (ns.map .int)), .v (.int m), .v (.int c)], []⟩, rfl, ⟨[.v (.fz (ns.map .int)), .v (.int m), .v (.int c)], []⟩, ?_, fun _ => rfl, fun _ => ⟨⟨[.v (.fz (ns.map .int)), .v (.int m), .v (.int c)], []⟩, r_un (r_pk rfl) rfl, rfl⟩⟩
    have pw : gPow (.int 10) (.int 18) = some (.int ((10 : Int) ^ 18)) := rfl
    exact r_tru (r_op (r_var rfl) (r_op rfl rfl pw) rfl)
  have eg : ((ns.map D.int).filter isGreat).map id = (ns.filter fun i => decide ((10 : Int) ^ 18 ≤ i)).map .int := by
    rw [List.map_id, List.filter_map]
    rfl
  rw [eg] at comp
  generalize hgs : (ns.filter fun i => decide ((10 : Int) ^ 18 ≤ i)) = gs at comp
  refine ⟨potS gs 0 m 0, ⟨gs, 0, m, 0, rfl⟩, ?_⟩
  refine f_rt (z1 := ⟨[.v (.fz (ns.map .int)), .v (.int m), b], potS gs 0 m 0⟩) ?_
  refine r_seq (z1 := ⟨[.v (.fz (ns.map .int)), .v (.int 50021), .un], []⟩) (by rfl) (r_seq (r_for (sl 50021 .un) run) (r_ret ?_))
  refine r_share (o := .dic potK [.ref 0, .int 0, .int m, .int 0]) (b := .md potK [.ref 0, .int 0, .int m, .int 0]) (s1 := [.lst (gs.map .int)]) ?_ rfl
  refine r_disp (kk := potK) (ks := [.str "great", .str "left", .str "mixed", .str "turn"]) (ds := [.ref 0, .int 0, .int m, .int 0]) ?_ (by rfl) (by show 4 ≤ 15; omega) (merge4 _ _ _ _)
  refine r_pcons (z2 := ⟨[.v (.fz (ns.map .int)), .v (.int m), b], [.lst (gs.map .int)]⟩) (by rfl) (r_share comp (by rfl)) ?_
  exact r_pcons (by rfl) (by rfl) (r_pcons (by rfl) (r_var (by rfl)) (r_pcons (by rfl) (by rfl) (by rfl)))
end M.K
namespace M.K
open PySem L2 M M.Att
/-! ## the sorted goals -/
theorem isort_n {l : List Nat} : isort (l.map fun (v : Nat) => (v : Int)) = (l.mergeSort).map fun (v : Nat) => (v : Int) := by
  refine (isort_same ?_ ?_).symm
  · exact (List.mergeSort_perm l _).map _
  · have := List.pairwise_mergeSort (le := fun a b : Nat => decide (a ≤ b)) (fun a b c h1 h2 => by simp at *; omega) (fun a b => by simp; omega) l
    rw [List.pairwise_map]
    exact this.imp fun h => by simpa using h
theorem gSorted_n (l : List Nat) : gSorted (.lst (l.map nD)) = some (l.mergeSort.map nD) := by
  show (lstI (.lst (l.map nD))).map _ = _
  rw [lstI_n]
  show some ((isort (l.map fun (v : Nat) => (v : Int))).map D.int) = _
  rw [isort_n, List.map_map]
  rfl
theorem goal_sorted {l : List Nat} {n : Nat} (hn : l.Nodup) (hl : ∀ v ∈ l, v < n) : GoalOk n l.mergeSort := by
  have hp := List.mergeSort_perm l (fun a b => decide (a ≤ b))
  refine ⟨?_, fun v hv => hl v (hp.mem_iff.mp hv)⟩
  have h1 := List.pairwise_mergeSort (le := fun a b : Nat => decide (a ≤ b)) (fun a b c h1 h2 => by simp at *; omega) (fun a b => by simp; omega) l
  have h2 : (l.mergeSort).Nodup := hp.nodup_iff.mpr hn
  exact (h1.and h2).imp fun ⟨a, b⟩ => by simp at a; omega
/-- sorted(set(list(goal) + [x])) -/
theorem gSortSet_n {l : List Nat} {n : Nat} (hl : ∀ v ∈ l, v < n) (hn : n ≤ 60) (hlen : l.length ≤ 100) : ∃ l', gSortSet (.lst (l.map nD)) = some (l'.map nD) ∧ GoalOk n l' ∧ ∀ v ∈ l, v ∈ l' := by
  let ns := l.map fun (v : Nat) => (v : Int)
  have hpos : ∀ z ∈ dd ns, 0 ≤ z ∧ z < (n : Int) := fun z hz => by
    obtain ⟨v, hv, rfl⟩ := List.mem_map.mp (mem_dd.mp hz)
    have := hl v hv
    omega
  have hd : (dd ns).length ≤ n := by
    have h1 : ((dd ns).map Int.toNat).Nodup := by
      rw [List.nodup_iff_pairwise_ne, List.pairwise_map]
      exact (List.nodup_iff_pairwise_ne.mp (dd_nodup ns)).imp_of_mem fun ha hb hne e => hne (by have := hpos _ ha; have := hpos _ hb; omega)
    have := nodup_le (ys := List.range n) h1 fun a ha => by
      obtain ⟨z, hz, rfl⟩ := List.mem_map.mp ha
      have := hpos z hz
      exact List.mem_range.mpr (by omega)
    rwa [List.length_map, List.length_range] at this
  have hmem : ∀ z, z ∈ isort (dd ns) ↔ z ∈ dd ns := fun z => (isort_perm (dd ns)).mem_iff
  refine ⟨(isort (dd ns)).map Int.toNat, ?_, ⟨?_, fun v hv => ?_⟩, fun v hv => ?_⟩
  · show (seqI (.lst (l.map nD))).bind _ = _
    have e : seqI (.lst (l.map nD)) = some ns := toIs_n l
    rw [e]
    show (if ns.length + 1 < scanBound ∧ (dd ns).length < 64 then some ((isort (dd ns)).map D.int) else none) = _
    rw [if_pos ⟨by show (l.map _).length + 1 < _; rw [List.length_map]; have := scan200; omega, by omega⟩, List.map_map]
    congr 1
    refine List.map_congr_left fun z hz => ?_
    have := hpos z ((hmem z).mp hz)
    show D.int z = D.int ((z.toNat : Nat) : Int)
    congr 1
    omega
  · rw [List.pairwise_map]
    have h1 := isort_sorted (dd ns)
    have h2 : (isort (dd ns)).Nodup := (isort_perm (dd ns)).nodup_iff.mpr (dd_nodup ns)
    exact (h1.and h2).imp_of_mem fun {a b} ha hb ⟨h3, h4⟩ => by
      have := hpos a ((hmem a).mp ha)
      have := hpos b ((hmem b).mp hb)
      omega
  · obtain ⟨z, hz, rfl⟩ := List.mem_map.mp hv
    have := hpos z ((hmem z).mp hz)
    omega
  · refine List.mem_map.mpr ⟨(v : Int), (hmem _).mpr (mem_dd.mpr (List.mem_map.mpr ⟨v, hv, rfl⟩)), ?_⟩
    omega
def bads (goal : List Nat) (n : Nat) : List D := [.non, .lst (goal.map nD), .tup (goal.map nD ++ [nD n]), .tup [.int 0, .int 0], .tup [.bl true], .tup [.int (-1)], .str "0"]
theorem bad_ok {goal : List Nat} {n : Nat} (hn : 1 ≤ n) (hlen : goal.length ≤ 100) {d : D} (hd : d ∈ bads goal n) (s) : f_are_ascending [d, nD n] s = .ok (.bl false) s := by
  unfold bads at hd
  simp only [List.mem_cons, List.not_mem_nil, or_false] at hd
  rcases hd with rfl | rfl | rfl | rfl | rfl | rfl | rfl
  · exact asc_no rfl s
  · exact asc_no rfl s
  · refine asc_out (small (by rw [List.length_append, List.length_map]; show _ + 1 ≤ _; omega)) (fun d hd => ?_) ?_ s
    · rcases List.mem_append.mp hd with hd | hd
      · obtain ⟨v, _, rfl⟩ := List.mem_map.mp hd; exact .inl ⟨_, rfl⟩
      · have : d = nD n := by simpa using hd
        rw [this]; exact .inl ⟨_, rfl⟩
    · rw [List.all_append]
      have : wv n (nD n) = false := decide_eq_false (by omega)
      simp [this]
  · exact asc_in [0, 0] rfl (by show 2 ≤ 1000; omega) (by
      have : wv n (.int 0) = true := decide_eq_true (by omega)
      simp [this]) (by rfl) s
  · exact asc_out (by show 1 ≤ sizeLine; decide) (fun d hd => by have : d = .bl true := (by simpa using hd); rw [this]; exact .inr ⟨_, rfl⟩) rfl s
  · refine asc_out (by show 1 ≤ sizeLine; decide) (fun d hd => by have : d = .int (-1) := (by simpa using hd); rw [this]; exact .inl ⟨_, rfl⟩) ?_ s
    have : wv n (.int (-1)) = false := show decide ((0 : Int) ≤ -1 ∧ (-1 : Int) ≤ (n : Int) - 1) = false from decide_eq_false (by omega)
    simp [this]
  · exact asc_no rfl s
end M.K
namespace M.K
open PySem L2 M M.Att
def bLaw : Mi Fl := (mSeq (mAsg (mCall 4 f__law_game (mCons (mVar 1) (mCons (mOp gAdd (mPure (.int 1)) (mCall 2 f__law_die (mCons (mVar 1) (mCons (mOp gSubs (mSettle (mLst (mCons (mPure (.int 9)) (mCons (mPure (.int 60)) (mPure []))))) (mCall 2 f__law_die (mCons (mVar 1) (mCons (mPure (.int 2)) (mPure []))))) (mPure []))))) (mCons (mSettle (mLst (mCons (mPure (.int 3)) (mPure [])))) (mCons (mPure (.int 4)) (mPure [])))))) (tgName 3))
    (mSeq (mAsg (mTup (mCons (mCall 2 f__law_die (mCons (mVar 1) (mCons (mPure (.int 2)) (mPure [])))) (mCons (mUn gLen (mPk 3)) (mPure [])))) (tgTup 2 (tgsCons (tgName 4) (tgsCons (tgName 5) tgsNil))))
    (mSeq (mAsg (mUn gTuple (mSettle (mUnB gSorted (mSl (mCall 2 f__law_mixed (mCons (mVar 1) (mCons (mSettle (mListR1 (mVar 5))) (mPure [])))) (mPure none) (mBind (mCall 2 f__law_die (mCons (mVar 1) (mCons (mOp gAdd (mVar 5) (mPure (.int 1))) (mPure [])))) fun d => mLift ((toI d).map some)))))) (tgName 6))
    (mSeq (mAsg (mCallK 3 3 [2, 1, 0] f_forced_steps (mCons (mVar 6) (mCons (mVar 4) (mCons (mVar 3) (mPure []))))) (tgName 7))
    (mSeq (mIte (mOr (mNot (mTru (mUn (gIsi "tuple") (mVar 7)))) (mTru (mOp gNe (mUn gLen (mPk 7)) (mPk 5)))) (mRet (mPure (.bl false))) (mFl .nx))
    (mSeq (mIte (mTru (mOp gNe (mSettle (mLc [8] (mRange1 (mVar 5)) (tgName 8) (mNot (mTru (mCall 5 f__law_entry_right (mCons (mVar 3) (mCons (mVar 4) (mCons (mVar 6) (mCons (mVar 7) (mCons (mVar 8) (mPure []))))))))) (mVar 8))) (mSettle (mLst (mPure []))))) (mRet (mPure (.bl false))) (mFl .nx))
    (mSeq (mAsg (mUn gTuple (mSettle (mUnB gSortSet (mOp gAdd (mSettle (mUnB items (mPk 6))) (mSettle (mLst (mCons (mCall 2 f__law_die (mCons (mVar 1) (mCons (mVar 5) (mPure [])))) (mPure [])))))))) (tgName 9))
    (mSeq (mAsg (mCall 3 f_forced_steps (mCons (mVar 3) (mCons (mVar 4) (mCons (mVar 9) (mPure []))))) (tgName 10))
    (mSeq (mFor (mRange1 (mVar 5)) (tgName 8) (mIte (mAnd (mTru (mOp (gIs not) (mOp gSubs (mVar 7) (mPk 8)) (mPure .non))) (mOr (mTru (mOp (gIs id) (mOp gSubs (mVar 10) (mPk 8)) (mPure .non))) (mTru (mOp gGt (mOp gSubs (mOp gSubs (mVar 10) (mPk 8)) (mPure (.int 0))) (mOp gSubs (mOp gSubs (mVar 7) (mPk 8)) (mPure (.int 0))))))) (mRet (mPure (.bl false))) (mFl .nx)))
    (mSeq (mAsg (mUn gTuple (mSettle (mLc [8] (mRange1 (mVar 5)) (tgName 8) (mTru (mOp (gIs not) (mOp gSubs (mVar 7) (mPk 8)) (mPure .non))) (mVar 8)))) (tgName 11))
    (mSeq (mAsg (mCall 3 f_forced_steps (mCons (mVar 3) (mCons (mVar 4) (mCons (mVar 11) (mPure []))))) (tgName 12))
    (mSeq (mIte (mTru (mOp gNe (mUn gTuple (mSettle (mLc [8] (mRange1 (mVar 5)) (tgName 8) (mTru (mOp (gIs not) (mOp gSubs (mVar 12) (mPk 8)) (mPure .non))) (mVar 8)))) (mPk 11))) (mRet (mPure (.bl false))) (mFl .nx))
    (mSeq (mAsg (mCall 2 f__law_one (mCons (mVar 1) (mCons (mSettle (mLst (mCons (mPure .non) (mCons (mSettle (mUnB items (mPk 6))) (mCons (mOp gAdd (mVar 6) (mTup (mCons (mVar 5) (mPure [])))) (mCons (mTup (mCons (mPure (.int 0)) (mCons (mPure (.int 0)) (mPure [])))) (mCons (mTup (mCons (mPure (.bl true)) (mPure []))) (mCons (mTup (mCons (mBind (mPure (.int 1)) fun d => mLift (gNeg d)) (mPure []))) (mCons (mPure (.str ("0" : Str))) (mPure [])))))))))) (mPure [])))) (tgName 13))
    (mIte (mOr (mTru (mOp gNe (mCall 3 f__law_word (mCons (mVar 3) (mCons (mVar 4) (mCons (mVar 13) (mPure []))))) (mPure (.str ("goal" : Str))))) (mOr (mTru (mOp gNe (mCall 3 f__law_word (mCons (mVar 3) (mCons (mPure (.int 2)) (mCons (mVar 13) (mPure []))))) (mPure (.str ("player" : Str))))) (mTru (mOp gNe (mCall 3 f__law_word (mCons (mVar 3) (mCons (mPure (.bl true)) (mCons (mVar 6) (mPure []))))) (mPure (.str ("player" : Str))))))) (mRet (mPure (.bl false))) (mFl .nx)))))))))))))))
def zL (sc : D) (s : List SObj) (b2 b3 b4 b5 b6 b7 b8 b9 b10 b11 b12 b13 : B) : Z := ⟨[.v sc, .v (.ref 1), b2, b3, b4, b5, b6, b7, b8, b9, b10, b11, b12, b13], s⟩
theorem gNe_str {a b : Str} (h : a = b) (ha : SeqAt.shaped (.str a) = true) : gNe (.str a) (.str b) = some (.bl false) := by
  subst h
  show (if SeqAt.shaped (.str a) = true ∧ SeqAt.shaped (.str a) = true then some (D.bl (not (PyData.eqv (.str a) (.str a)))) else none) = _
  rw [if_pos ⟨ha, ha⟩]
  simp [PyData.eqv]
theorem sh_goal : SeqAt.shaped (.str "goal") = true := by decide +kernel
theorem sh_player : SeqAt.shaped (.str "player") = true := by decide +kernel
theorem toPs_n (l : List Nat) : toPs (l.map nD) = some ((l.map fun (v : Nat) => (v : Int)).map .int) := by
  have := toPs_ints (l.map fun (v : Nat) => (v : Int))
  rw [List.map_map] at this
  exact this
/-- the comprehension over all positions that must find nothing -/
theorem none_wrong {z : Z} {n : Nat} {c : Mi Bool} {m : Mi D} (i : Nat) (hz : (mRange1 (mVar 5)) z = .ok ((List.range n).map nD) z) (hn : n ≤ 60) (h : ∀ v, v < n → ∃ z1, tgName i (nD v) (z.wipe [i]) = some z1 ∧ c z1 = .ok false z1 ∧ z1.wipe [i] = z.wipe [i]) :
    mLc [i] (mRange1 (mVar 5)) (tgName i) c m z = .ok (.ml []) z := by
  have := lc_ok (vs := [i]) (t := tgName i) (c := c) (m := m) (fun _ => false) id hz (by rw [List.length_map, List.length_range]; exact small (by omega)) fun d hd => by
    obtain ⟨v, hv, rfl⟩ := List.mem_map.mp hd
    obtain ⟨z1, e1, e2, e3⟩ := h v (List.mem_range.mp hv)
    exact ⟨z1, e1, z1, e2, fun _ => e3, fun q => by cases q⟩
  rw [this]
  simp
end M.K
namespace M.K
open PySem L2 M M.Att
theorem ne_ints (l : List Nat) : gNe (dNs l) (dNs l) = some (.bl false) := by
  have e : dNs l = .tup ((l.map fun (v : Nat) => (v : Int)).map .int) := by unfold dNs; rw [List.map_map]; rfl
  rw [e]
  have := gEqv_tup not (l.map fun (v : Nat) => (v : Int)) (l.map fun (v : Nat) => (v : Int))
  rw [decide_eq_true rfl] at this
  exact this
theorem toPs_cons {d : D} {ds : List D} {p : PyData} {ps : List PyData} (h : toP d = some p) (h2 : toPs ds = some ps) : toPs (d :: ds) = some (p :: ps) := by
  unfold toPs
  rw [h, h2]
theorem toPs_bads (goal : List Nat) (n : Nat) : ∃ ps, toPs (bads goal n) = some ps ∧ PyData.canLayAll0 ps = true ∧ PyData.depthAll ps ≤ 1 ∧ ps ≠ [] := by
  let xs := goal.map fun (v : Nat) => (v : Int)
  have e1 : toP (.lst (goal.map nD)) = some (.list (xs.map .int)) := by show (toPs (goal.map nD)).map _ = _; rw [toPs_n]; rfl
  have e2 : toP (.tup (goal.map nD ++ [nD n])) = some (.tuple ((xs ++ [(n : Int)]).map .int)) := by
    have : goal.map nD ++ [nD n] = (goal ++ [n]).map nD := by rw [List.map_append]; rfl
    show (toPs (goal.map nD ++ [nD n])).map _ = _
    rw [this, toPs_n, List.map_append]
    rfl
  refine ⟨[.none, .list (xs.map .int), .tuple ((xs ++ [(n : Int)]).map .int), .tuple [.int 0, .int 0], .tuple [.bool true], .tuple [.int (-1)], .str "0"], ?_, ?_, ?_, by simp⟩
  · exact toPs_cons rfl (toPs_cons e1 (toPs_cons e2 (toPs_cons rfl (toPs_cons rfl (toPs_cons rfl (toPs_cons rfl rfl))))))
  · have c1 := canLay_ints xs
    have c2 := canLay_ints (xs ++ [(n : Int)])
    have c3 : PyData.canLay0 (.str "0") = true := by decide +kernel
    simp only [PyData.canLayAll0, PyData.canLay0, c1, c2, c3, Bool.and_true, Bool.true_and] at *
    first | rfl | simp [c3] | exact c3
  · have d1 := depth_ints xs
    have d2 := depth_ints (xs ++ [(n : Int)])
    rw [List.map_append] at d2
    have d2 : PyData.depthAll (xs.map PyData.int ++ [PyData.int (n : Int)]) = 0 := d2
    simp [PyData.depthAll, PyData.depth, d1, d2]
theorem bads_ne (goal : List Nat) (n : Nat) : gNe (.lst (bads goal n)) (.lst []) = some (.bl true) := by
  obtain ⟨ps, e, h1, h2, h3⟩ := toPs_bads goal n
  unfold gNe gEqv toP
  rw [e]
  have sh : SeqAt.shaped (.list ps) = true := by
    unfold SeqAt.shaped PyData.canLay0 PyData.depth
    rw [h1]
    simp
    omega
  show (if SeqAt.shaped (.list ps) = true ∧ SeqAt.shaped (.list []) = true then some (D.bl (not (PyData.eqv (.list ps) (.list [])))) else none) = _
  rw [if_pos ⟨sh, rfl⟩]
  cases ps with
  | nil => exact absurd rfl h3
  | cons p ps => simp [PyData.eqv, PyData.eqvAll]
end M.K
namespace M.K
open PySem L2 M M.Att
theorem gLen_told (g : List Row) (p : Int) (q : Q) : gLen (told g p q) = some (nD g.length) := by
  show some (D.int (((List.range g.length).map (ent g p q)).length : Int)) = _
  rw [List.length_map, List.length_range]
/-- [v for v in range(many) if told[v] is not None] -/
theorem covered {z : Z} {g : List Row} {p : Int} {q : Q} (i : Nat) (hi : i ≠ 8) (hz : (mRange1 (mVar 5)) z = .ok ((List.range g.length).map nD) z) (hn : g.length ≤ 60) (h8 : 8 < z.e.length) (ht : z.e[i]? = some (.v (told g p q))) :
    mLc [8] (mRange1 (mVar 5)) (tgName 8) (mTru (mOp (gIs not) (mOp gSubs (mVar i) (mPk 8)) (mPure .non))) (mVar 8) z = .ok (.ml (((List.range g.length).filter fun v => (q.lookup v).isSome).map nD)) z := by
  have := lc_ok (vs := [8]) (t := tgName 8) (c := mTru (mOp (gIs not) (mOp gSubs (mVar i) (mPk 8)) (mPure .non))) (m := mVar 8) (fun d => match d with | .int k => (q.lookup k.toNat).isSome | _ => false) id hz (by rw [List.length_map, List.length_range]; exact small (by omega)) fun d hd => by
    obtain ⟨v, hv, rfl⟩ := List.mem_map.mp hd
    have hv := List.mem_range.mp hv
    have g8 : ((z.wipe [8]).e.set 8 (.v (nD v)))[8]? = some (.v (nD v)) := List.getElem?_set_self (by show 8 < (wipeE z.e [8]).length; rw [wipeE_length]; exact h8)
    have gi : ((z.wipe [8]).e.set 8 (.v (nD v)))[i]? = some (.v (told g p q)) := by
      rw [List.getElem?_set_ne (Ne.symm hi)]
      show (wipeE z.e [8])[i]? = _
      rw [wipeE_get, if_neg (by simp; exact fun h => absurd h hi)]
      exact ht
    have hw : (⟨(z.wipe [8]).e.set 8 (.v (nD v)), z.s⟩ : Z).wipe [8] = z.wipe [8] := by
      show Z.mk _ _ = Z.mk _ _
      congr 1
      show (((z.e).set 8 .un).set 8 (.v (nD v))).set 8 .un = (z.e).set 8 .un
      rw [List.set_set, List.set_set]
    refine ⟨⟨(z.wipe [8]).e.set 8 (.v (nD v)), z.s⟩, rfl, ⟨(z.wipe [8]).e.set 8 (.v (nD v)), z.s⟩, ?_, fun _ => hw, fun _ => ⟨⟨(z.wipe [8]).e.set 8 (.v (nD v)), z.s⟩, r_var g8, hw⟩⟩
    exact r_tru (r_op (r_op (r_var gi) (r_pk (by show (((z.wipe [8]).e.set 8 (.v (nD v)))[8]?).bind pk = _; rw [g8]; rfl)) (told_at hv)) (by rfl) isnot_ent)
  rw [this]
  congr 2
  rw [List.filter_map, List.map_id]
  rfl
end M.K
namespace M.K
open PySem L2 M M.Att
theorem gAdd_lst {a b : List D} (h : a.length + b.length ≤ 1000) : gAdd (.lst a) (.lst b) = some (.lst (a ++ b)) := by
  show gLstCat (.lst a) (.lst b) = _
  unfold gLstCat
  exact if_pos (small h)
theorem gAdd_tup {a b : List D} (h : a.length + b.length ≤ 999) : gAdd (.tup a) (.tup b) = some (.tup (a ++ b)) := by
  cases a with
  | nil => rfl
  | cons x a =>
    have e : gTupCat (.tup (x :: a)) (.tup b) = some (.tup (x :: a ++ b)) := by
      unfold gTupCat
      exact if_pos (small (by rw [List.length_cons] at h; omega))
    show (match gTupCat (.tup (x :: a)) (.tup b) with
      | some d => some d
      | none => match gTupCat0 (.tup (x :: a)) (.tup b) with
        | some d => some d
        | none => gLstCat (.tup (x :: a)) (.tup b)) = _
    rw [e]
/-- the comparison of two tables, position by position -/
theorem wide_ok {g : List Row} {p : Int} {q q' : Q} {sc : D} {s : List SObj} {b2 b3 b4 b6 b9 b11 b12 b13 : B} {n : D} (hw : ∀ v k, v < g.length → q.lookup v = some k → ∃ k', k' ≤ k ∧ q'.lookup v = some k') (b8 : B) :
    ∃ b8', mForGo (tgName 8) (mIte (mAnd (mTru (mOp (gIs not) (mOp gSubs (mVar 7) (mPk 8)) (mPure .non))) (mOr (mTru (mOp (gIs id) (mOp gSubs (mVar 10) (mPk 8)) (mPure .non))) (mTru (mOp gGt (mOp gSubs (mOp gSubs (mVar 10) (mPk 8)) (mPure (.int 0))) (mOp gSubs (mOp gSubs (mVar 7) (mPk 8)) (mPure (.int 0))))))) (mRet (mPure (.bl false))) (mFl .nx)) ((List.range g.length).map nD)
      (zL sc s b2 b3 b4 (.v n) b6 (.v (told g p q)) b8 b9 (.v (told g p q')) b11 b12 b13) = .ok .nx (zL sc s b2 b3 b4 (.v n) b6 (.v (told g p q)) b8' b9 (.v (told g p q')) b11 b12 b13) := by
  have := for_inv (t := tgName 8) (b := (mIte (mAnd (mTru (mOp (gIs not) (mOp gSubs (mVar 7) (mPk 8)) (mPure .non))) (mOr (mTru (mOp (gIs id) (mOp gSubs (mVar 10) (mPk 8)) (mPure .non))) (mTru (mOp gGt (mOp gSubs (mOp gSubs (mVar 10) (mPk 8)) (mPure (.int 0))) (mOp gSubs (mOp gSubs (mVar 7) (mPk 8)) (mPure (.int 0))))))) (mRet (mPure (.bl false))) (mFl .nx)))
    (fun j z => ∃ b8', z = zL sc s b2 b3 b4 (.v n) b6 (.v (told g p q)) b8' b9 (.v (told g p q')) b11 b12 b13) ((List.range g.length).map nD) 0 (zL sc s b2 b3 b4 (.v n) b6 (.v (told g p q)) b8 b9 (.v (told g p q')) b11 b12 b13) (fun j d hd z hz => by
      obtain ⟨b8', rfl⟩ := hz
      obtain ⟨v, hv, rfl⟩ := List.mem_map.mp (List.mem_of_getElem? hd)
      have hv := List.mem_range.mp hv
      have t1 := told_at (g := g) (p := p) (q := q) hv
      have t2 := told_at (g := g) (p := p) (q := q') hv
      refine ⟨zL sc s b2 b3 b4 (.v n) b6 (.v (told g p q)) (.v (nD v)) b9 (.v (told g p q')) b11 b12 b13, rfl, .nx, zL sc s b2 b3 b4 (.v n) b6 (.v (told g p q)) (.v (nD v)) b9 (.v (told g p q')) b11 b12 b13, ?_, .inl rfl, _, rfl⟩
      have i1 := isnot_ent (g := g) (p := p) (q := q) (v := v)
      have i2 := is_ent (g := g) (p := p) (q := q') (v := v)
      cases e : q.lookup v with
      | none =>
        rw [e] at i1
        exact r_iteF (r_andF (r_tru (r_op (r_op (r_var (by rfl)) (r_pk (by rfl)) t1) (by rfl) i1))) (by rfl)
      | some k =>
        obtain ⟨k', hk, e'⟩ := hw v k hv e
        rw [e] at i1
        rw [e'] at i2
        exact r_iteF (r_andT (r_tru (r_op (r_op (r_var (by rfl)) (r_pk (by rfl)) t1) (by rfl) i1)) (r_orF (r_tru (r_op (r_op (r_var (by rfl)) (r_pk (by rfl)) t2) (by rfl) i2)) (r_tru (r_op (r_op (r_op (r_var (by rfl)) (r_pk (by rfl)) t2) (by rfl) (ent_0 e')) (r_op (r_op (r_var (by rfl)) (r_pk (by rfl)) t1) (by rfl) (ent_0 e)) (gGt_f (by omega)))))) (by rfl)) ⟨_, rfl⟩
  obtain ⟨z', run, b8', rfl⟩ := this
  exact ⟨b8', run⟩
end M.K
namespace M.K
open PySem L2 M M.Att
theorem r_rng {z : Z} {i n : Nat} (h : z.e[i]? = some (.v (nD n))) (hn : n ≤ 60) : (mRange1 (mVar i)) z = .ok ((List.range n).map nD) z := r_range (r_var h) (by omega)
theorem turn_ok {sc : D} {s : List SObj} (hs : Pot s) (b2 b3 b4 b5 b6 b7 b8 b9 b10 b11 b12 b13 : B) : ∃ (s' : List SObj) (c3 c4 c5 c6 c7 c8 c9 c10 c11 c12 c13 : B), Pot s' ∧ bLaw (zL sc s b2 b3 b4 b5 b6 b7 b8 b9 b10 b11 b12 b13) = .ok .nx (zL sc s' b2 c3 c4 c5 c6 c7 c8 c9 c10 c11 c12 c13) := by
  -- the game
  obtain ⟨r1, s1, hs1, d1, hr1⟩ := die (many := 2) (by omega) (by omega) hs
  obtain ⟨c, hc9, hc60, ec⟩ : ∃ c : Nat, 1 ≤ c ∧ c ≤ 60 ∧ gSubs (.lst [.int 9, .int 60]) (nD r1) = some (nD c) := by
    match r1, hr1 with
    | 0, _ => exact ⟨9, by omega, by omega, gSubs_ln _ 0⟩
    | 1, _ => exact ⟨60, by omega, by omega, gSubs_ln _ 1⟩
  obtain ⟨r2, s2, hs2, d2, hr2⟩ := die (many := c) hc9 (by omega) hs1
  obtain ⟨g, s3, hs3, hg, hgl, eg⟩ := game_ok (many := 1 + r2) (by omega) (by omega) hs2
  have hle := hg.le
  have hpos := hg.pos
  -- the player, the goal
  obtain ⟨pn, s4, hs4, d4, hpn⟩ := die (many := 2) (by omega) (by omega) hs3
  have hp : (pn : Int) = 0 ∨ (pn : Int) = 1 := by omega
  obtain ⟨l', s5, hs5, hperm, em⟩ := mixed_ok (List.range g.length) (by rw [List.length_range]; omega) hs4
  obtain ⟨r5, s6, hs6, d6, hr5⟩ := die (many := g.length + 1) (by omega) (by omega) hs5
  have hgo : GoalOk g.length (l'.take r5).mergeSort := goal_sorted (List.Nodup.sublist (List.take_sublist _ _) (hperm.nodup_iff.mpr List.nodup_range)) fun v hv => List.mem_range.mp (hperm.mem_iff.mp (List.mem_of_mem_take hv))
  generalize hgoal : (l'.take r5).mergeSort = goal at hgo
  have hglen : goal.length ≤ 60 := by
    have := nodup_le (ys := List.range g.length) hgo.nd fun a ha => List.mem_range.mpr (hgo.lt a ha)
    rw [List.length_range] at this
    omega
  -- the tables
  obtain ⟨q, ef, hR⟩ := forced_ok hg hp hgo s6
  obtain ⟨x, s7, hs7, d7, hx⟩ := die (many := g.length) hpos (by omega) hs6
  obtain ⟨more, em2, hmore, hsub⟩ := gSortSet_n (l := goal ++ [x]) (n := g.length) (fun v hv => by
    rcases List.mem_append.mp hv with hv | hv
    · exact hgo.lt v hv
    · have : v = x := by simpa using hv
      rw [this]; exact hx) hle (by rw [List.length_append]; show _ + 1 ≤ _; omega)
  obtain ⟨q2, ef2, hR2⟩ := forced_ok hg hp hmore s7
  have hall : GoalOk g.length ((List.range g.length).filter fun v => (q.lookup v).isSome) := ⟨List.pairwise_lt_range.filter _, fun v hv => List.mem_range.mp (List.mem_filter.mp hv).1⟩
  obtain ⟨q3, ef3, hR3⟩ := forced_ok hg hp hall s7
  have hrange : ∀ v, v < g.length → ∀ w ∈ nxs g v, w < g.length := fun v hv w hw => by
    obtain ⟨r, _, hrm, e⟩ := row_at hv
    rw [e] at hw
    exact (hg.row r hrm).lt w hw
  have again : ((List.range g.length).filter fun v => (q3.lookup v).isSome) = (List.range g.length).filter fun v => (q.lookup v).isSome := by
    refine List.filter_congr fun v hv => ?_
    have hv := List.mem_range.mp hv
    have h1 := hR.again hR3 hrange (fun u hu => by
      rw [List.mem_filter, List.mem_range]
      exact ⟨fun h => h.2, fun h => ⟨hu, h⟩⟩) v hv
    have h2 : v ∈ (List.range g.length).filter (fun v => (q.lookup v).isSome) ↔ (q.lookup v).isSome = true := by
      rw [List.mem_filter, List.mem_range]
      exact ⟨fun h => h.2, fun h => ⟨hv, h⟩⟩
    rw [h2] at h1
    cases e1 : (q3.lookup v).isSome <;> cases e2 : (q.lookup v).isSome <;> simp_all
  -- the bad one
  obtain ⟨bad, s8, hs8, hbad, e13⟩ := one_ok (ds := bads goal g.length) (bads_ne goal g.length) (by show 1 ≤ 7; omega) (by show 7 ≤ 100; omega) hs7
  have w1 := word_goal hg hp (b := bad) s8 (bad_ok hpos (by omega) hbad s8)
  have w2 := word_player hg (b := bad) s8 (need_player_2 s8)
  have w3 := word_player hg (b := dNs goal) s8 (need_player_bl true s8)
  -- the steps
  have T1 : (mAsg (mCall 4 f__law_game (mCons (mVar 1) (mCons (mOp gAdd (mPure (.int 1)) (mCall 2 f__law_die (mCons (mVar 1) (mCons (mOp gSubs (mSettle (mLst (mCons (mPure (.int 9)) (mCons (mPure (.int 60)) (mPure []))))) (mCall 2 f__law_die (mCons (mVar 1) (mCons (mPure (.int 2)) (mPure []))))) (mPure []))))) (mCons (mSettle (mLst (mCons (mPure (.int 3)) (mPure [])))) (mCons (mPure (.int 4)) (mPure [])))))) (tgName 3)) (zL sc s b2 b3 b4 b5 b6 b7 b8 b9 b10 b11 b12 b13) = .ok .nx (zL sc s3 b2 (.v (dG g)) b4 b5 b6 b7 b8 b9 b10 b11 b12 b13) := by
    have a1 : (mOp gSubs (mSettle (mLst (mCons (mPure (.int 9)) (mCons (mPure (.int 60)) (mPure []))))) (mCall 2 f__law_die (mCons (mVar 1) (mCons (mPure (.int 2)) (mPure []))))) (zL sc s b2 b3 b4 b5 b6 b7 b8 b9 b10 b11 b12 b13) = .ok (nD c) (zL sc s1 b2 b3 b4 b5 b6 b7 b8 b9 b10 b11 b12 b13) :=
      r_op (r_settle (r_lst (ds := [.int 9, .int 60]) rfl (by show 2 ≤ sizeLine; decide)) rfl) (r_call (r_cons (r_var rfl) (r_cons rfl rfl)) d1) ec
    have a2 : (mOp gAdd (mPure (.int 1)) (mCall 2 f__law_die (mCons (mVar 1) (mCons (mOp gSubs (mSettle (mLst (mCons (mPure (.int 9)) (mCons (mPure (.int 60)) (mPure []))))) (mCall 2 f__law_die (mCons (mVar 1) (mCons (mPure (.int 2)) (mPure []))))) (mPure []))))) (zL sc s b2 b3 b4 b5 b6 b7 b8 b9 b10 b11 b12 b13) = .ok (nD (1 + r2)) (zL sc s2 b2 b3 b4 b5 b6 b7 b8 b9 b10 b11 b12 b13) :=
      r_op rfl (r_call (r_cons (r_var rfl) (r_cons a1 rfl)) d2) (gAdd_n 1 r2)
    exact r_asg (r_call (r_cons (r_var rfl) (r_cons a2 (r_cons (r_settle (r_lst (ds := [.int 3]) rfl (by show 1 ≤ sizeLine; decide)) rfl) (r_cons rfl rfl)))) eg) rfl
  have T2 : (mAsg (mTup (mCons (mCall 2 f__law_die (mCons (mVar 1) (mCons (mPure (.int 2)) (mPure [])))) (mCons (mUn gLen (mPk 3)) (mPure [])))) (tgTup 2 (tgsCons (tgName 4) (tgsCons (tgName 5) tgsNil)))) (zL sc s3 b2 (.v (dG g)) b4 b5 b6 b7 b8 b9 b10 b11 b12 b13) = .ok .nx (zL sc s4 b2 (.v (dG g)) (.v (nD pn)) (.v (nD g.length)) b6 b7 b8 b9 b10 b11 b12 b13) :=
    r_asg (r_tup (ds := [nD pn, nD g.length]) (r_cons (r_call (r_cons (r_var rfl) (r_cons rfl rfl)) d4) (r_cons (r_un (r_pk rfl) (gLen_G g)) rfl)) (by show 2 ≤ sizeLine; decide)) rfl
  have T3 : (mAsg (mUn gTuple (mSettle (mUnB gSorted (mSl (mCall 2 f__law_mixed (mCons (mVar 1) (mCons (mSettle (mListR1 (mVar 5))) (mPure [])))) (mPure none) (mBind (mCall 2 f__law_die (mCons (mVar 1) (mCons (mOp gAdd (mVar 5) (mPure (.int 1))) (mPure [])))) fun d => mLift ((toI d).map some)))))) (tgName 6)) (zL sc s4 b2 (.v (dG g)) (.v (nD pn)) (.v (nD g.length)) b6 b7 b8 b9 b10 b11 b12 b13) =
      .ok .nx (zL sc s6 b2 (.v (dG g)) (.v (nD pn)) (.v (nD g.length)) (.v (dNs goal)) b7 b8 b9 b10 b11 b12 b13) := by
    have a1 : mCall 2 f__law_mixed (mCons (mVar 1) (mCons (mSettle (mListR1 (mVar 5))) (mPure []))) (zL sc s4 b2 (.v (dG g)) (.v (nD pn)) (.v (nD g.length)) b6 b7 b8 b9 b10 b11 b12 b13) = .ok (.lst (l'.map nD)) (zL sc s5 b2 (.v (dG g)) (.v (nD pn)) (.v (nD g.length)) b6 b7 b8 b9 b10 b11 b12 b13) :=
      r_call (r_cons (r_var rfl) (r_cons (r_settle (listR _ (r_var rfl) (by omega)) rfl) rfl)) em
    have a2 : mCall 2 f__law_die (mCons (mVar 1) (mCons (mOp gAdd (mVar 5) (mPure (.int 1))) (mPure []))) (zL sc s5 b2 (.v (dG g)) (.v (nD pn)) (.v (nD g.length)) b6 b7 b8 b9 b10 b11 b12 b13) = .ok (nD r5) (zL sc s6 b2 (.v (dG g)) (.v (nD pn)) (.v (nD g.length)) b6 b7 b8 b9 b10 b11 b12 b13) :=
      r_call (r_cons (r_var rfl) (r_cons (r_op (r_var rfl) rfl (gAdd_n g.length 1)) rfl)) d6
    have e1 : gSorted (.lst ((l'.map nD).take r5)) = some (goal.map nD) := by rw [← List.map_take, gSorted_n, hgoal]
    exact r_asg (r_un (r_settle (r_unB (r_sl a1 a2) e1) rfl) rfl) rfl
  have T4 : (mAsg (mCallK 3 3 [2, 1, 0] f_forced_steps (mCons (mVar 6) (mCons (mVar 4) (mCons (mVar 3) (mPure []))))) (tgName 7)) (zL sc s6 b2 (.v (dG g)) (.v (nD pn)) (.v (nD g.length)) (.v (dNs goal)) b7 b8 b9 b10 b11 b12 b13) = .ok .nx (zL sc s6 b2 (.v (dG g)) (.v (nD pn)) (.v (nD g.length)) (.v (dNs goal)) (.v (told g pn q)) b8 b9 b10 b11 b12 b13) :=
    r_asg (r_callK (ds := [dNs goal, nD pn, dG g]) (r_cons (r_var rfl) (r_cons (r_var rfl) (r_cons (r_var rfl) rfl))) ef) rfl
  have T5 : (mIte (mOr (mNot (mTru (mUn (gIsi "tuple") (mVar 7)))) (mTru (mOp gNe (mUn gLen (mPk 7)) (mPk 5)))) (mRet (mPure (.bl false))) (mFl .nx)) (zL sc s6 b2 (.v (dG g)) (.v (nD pn)) (.v (nD g.length)) (.v (dNs goal)) (.v (told g pn q)) b8 b9 b10 b11 b12 b13) = .ok .nx (zL sc s6 b2 (.v (dG g)) (.v (nD pn)) (.v (nD g.length)) (.v (dNs goal)) (.v (told g pn q)) b8 b9 b10 b11 b12 b13) :=
    r_iteF (r_orF (r_notT (r_tru (r_un (r_var rfl) rfl))) (r_tru (r_op (r_un (r_pk rfl) (gLen_told g pn q)) (r_pk rfl) (gNe_ints rfl)))) rfl
  have T6 : (mIte (mTru (mOp gNe (mSettle (mLc [8] (mRange1 (mVar 5)) (tgName 8) (mNot (mTru (mCall 5 f__law_entry_right (mCons (mVar 3) (mCons (mVar 4) (mCons (mVar 6) (mCons (mVar 7) (mCons (mVar 8) (mPure []))))))))) (mVar 8))) (mSettle (mLst (mPure []))))) (mRet (mPure (.bl false))) (mFl .nx)) (zL sc s6 b2 (.v (dG g)) (.v (nD pn)) (.v (nD g.length)) (.v (dNs goal)) (.v (told g pn q)) b8 b9 b10 b11 b12 b13) = .ok .nx (zL sc s6 b2 (.v (dG g)) (.v (nD pn)) (.v (nD g.length)) (.v (dNs goal)) (.v (told g pn q)) b8 b9 b10 b11 b12 b13) := by
    have cz := none_wrong (z := (zL sc s6 b2 (.v (dG g)) (.v (nD pn)) (.v (nD g.length)) (.v (dNs goal)) (.v (told g pn q)) b8 b9 b10 b11 b12 b13)) (n := g.length) (c := mNot (mTru (mCall 5 f__law_entry_right (mCons (mVar 3) (mCons (mVar 4) (mCons (mVar 6) (mCons (mVar 7) (mCons (mVar 8) (mPure []))))))))) (m := mVar 8) 8 (r_rng rfl hle) hle fun v hv => by
      refine ⟨(zL sc s6 b2 (.v (dG g)) (.v (nD pn)) (.v (nD g.length)) (.v (dNs goal)) (.v (told g pn q)) (.v (nD v)) b9 b10 b11 b12 b13), rfl, ?_, rfl⟩
      exact r_notT (r_tru (r_call (r_cons (r_var rfl) (r_cons (r_var rfl) (r_cons (r_var rfl) (r_cons (r_var rfl) (r_cons (r_var rfl) rfl))))) (entry_ok hg hgo hR hv s6)))
    exact r_iteF (r_tru (r_op (r_settle cz rfl) (r_settle (r_lst (ds := []) rfl (Nat.zero_le _)) rfl) (gEqv_lst not [] []))) rfl
  have T7 : (mAsg (mUn gTuple (mSettle (mUnB gSortSet (mOp gAdd (mSettle (mUnB items (mPk 6))) (mSettle (mLst (mCons (mCall 2 f__law_die (mCons (mVar 1) (mCons (mVar 5) (mPure [])))) (mPure [])))))))) (tgName 9)) (zL sc s6 b2 (.v (dG g)) (.v (nD pn)) (.v (nD g.length)) (.v (dNs goal)) (.v (told g pn q)) b8 b9 b10 b11 b12 b13) = .ok .nx (zL sc s7 b2 (.v (dG g)) (.v (nD pn)) (.v (nD g.length)) (.v (dNs goal)) (.v (told g pn q)) b8 (.v (dNs more)) b10 b11 b12 b13) := by
    have a1 : (mOp gAdd (mSettle (mUnB items (mPk 6))) (mSettle (mLst (mCons (mCall 2 f__law_die (mCons (mVar 1) (mCons (mVar 5) (mPure [])))) (mPure []))))) (zL sc s6 b2 (.v (dG g)) (.v (nD pn)) (.v (nD g.length)) (.v (dNs goal)) (.v (told g pn q)) b8 b9 b10 b11 b12 b13) = .ok (.lst ((goal ++ [x]).map nD)) (zL sc s7 b2 (.v (dG g)) (.v (nD pn)) (.v (nD g.length)) (.v (dNs goal)) (.v (told g pn q)) b8 b9 b10 b11 b12 b13) := by
      have e : gAdd (.lst (goal.map nD)) (.lst [nD x]) = some (.lst ((goal ++ [x]).map nD)) := by
        rw [gAdd_lst (by rw [List.length_map]; show _ + 1 ≤ _; omega), List.map_append]
        rfl
      exact r_op (r_settle (r_unB (ds := goal.map nD) (r_pk rfl) rfl) rfl) (r_settle (r_lst (ds := [nD x]) (r_cons (r_call (r_cons (r_var rfl) (r_cons (r_var rfl) rfl)) d7) rfl) (by show 1 ≤ sizeLine; decide)) rfl) e
    exact r_asg (r_un (r_settle (r_unB a1 em2) rfl) rfl) rfl
  have T8 : (mAsg (mCall 3 f_forced_steps (mCons (mVar 3) (mCons (mVar 4) (mCons (mVar 9) (mPure []))))) (tgName 10)) (zL sc s7 b2 (.v (dG g)) (.v (nD pn)) (.v (nD g.length)) (.v (dNs goal)) (.v (told g pn q)) b8 (.v (dNs more)) b10 b11 b12 b13) = .ok .nx (zL sc s7 b2 (.v (dG g)) (.v (nD pn)) (.v (nD g.length)) (.v (dNs goal)) (.v (told g pn q)) b8 (.v (dNs more)) (.v (told g pn q2)) b11 b12 b13) :=
    r_asg (r_call (r_cons (r_var rfl) (r_cons (r_var rfl) (r_cons (r_var rfl) rfl))) ef2) rfl
  obtain ⟨b8', run9⟩ := wide_ok (g := g) (p := pn) (q := q) (q' := q2) (sc := sc) (s := s7) (b2 := b2) (b3 := .v (dG g)) (b4 := .v (nD pn)) (b6 := .v (dNs goal)) (b9 := (.v (dNs more))) (b11 := b11) (b12 := b12) (b13 := b13) (n := nD g.length) (fun v k hv hk => hR.mono hR2 hrange (fun u hu => hsub u (List.mem_append_left _ hu)) k v hv hk) b8
  have T9 : (mFor (mRange1 (mVar 5)) (tgName 8) (mIte (mAnd (mTru (mOp (gIs not) (mOp gSubs (mVar 7) (mPk 8)) (mPure .non))) (mOr (mTru (mOp (gIs id) (mOp gSubs (mVar 10) (mPk 8)) (mPure .non))) (mTru (mOp gGt (mOp gSubs (mOp gSubs (mVar 10) (mPk 8)) (mPure (.int 0))) (mOp gSubs (mOp gSubs (mVar 7) (mPk 8)) (mPure (.int 0))))))) (mRet (mPure (.bl false))) (mFl .nx))) (zL sc s7 b2 (.v (dG g)) (.v (nD pn)) (.v (nD g.length)) (.v (dNs goal)) (.v (told g pn q)) b8 (.v (dNs more)) (.v (told g pn q2)) b11 b12 b13) = .ok .nx (zL sc s7 b2 (.v (dG g)) (.v (nD pn)) (.v (nD g.length)) (.v (dNs goal)) (.v (told g pn q)) b8' (.v (dNs more)) (.v (told g pn q2)) b11 b12 b13) := r_for (r_rng rfl hle) run9
  have T10 : (mAsg (mUn gTuple (mSettle (mLc [8] (mRange1 (mVar 5)) (tgName 8) (mTru (mOp (gIs not) (mOp gSubs (mVar 7) (mPk 8)) (mPure .non))) (mVar 8)))) (tgName 11)) (zL sc s7 b2 (.v (dG g)) (.v (nD pn)) (.v (nD g.length)) (.v (dNs goal)) (.v (told g pn q)) b8' (.v (dNs more)) (.v (told g pn q2)) b11 b12 b13) = .ok .nx (zL sc s7 b2 (.v (dG g)) (.v (nD pn)) (.v (nD g.length)) (.v (dNs goal)) (.v (told g pn q)) b8' (.v (dNs more)) (.v (told g pn q2)) (.v (dNs ((List.range g.length).filter fun v => (q.lookup v).isSome))) b12 b13) := by
    have cz := covered (z := (zL sc s7 b2 (.v (dG g)) (.v (nD pn)) (.v (nD g.length)) (.v (dNs goal)) (.v (told g pn q)) b8' (.v (dNs more)) (.v (told g pn q2)) b11 b12 b13)) (g := g) (p := pn) (q := q) 7 (by decide) (r_rng rfl hle) hle (Nat.le_of_ble_eq_true rfl) rfl
    exact r_asg (r_un (r_settle cz rfl) rfl) rfl
  have T11 : (mAsg (mCall 3 f_forced_steps (mCons (mVar 3) (mCons (mVar 4) (mCons (mVar 11) (mPure []))))) (tgName 12)) (zL sc s7 b2 (.v (dG g)) (.v (nD pn)) (.v (nD g.length)) (.v (dNs goal)) (.v (told g pn q)) b8' (.v (dNs more)) (.v (told g pn q2)) (.v (dNs ((List.range g.length).filter fun v => (q.lookup v).isSome))) b12 b13) = .ok .nx (zL sc s7 b2 (.v (dG g)) (.v (nD pn)) (.v (nD g.length)) (.v (dNs goal)) (.v (told g pn q)) b8' (.v (dNs more)) (.v (told g pn q2)) (.v (dNs ((List.range g.length).filter fun v => (q.lookup v).isSome))) (.v (told g pn q3)) b13) :=
    r_asg (r_call (r_cons (r_var rfl) (r_cons (r_var rfl) (r_cons (r_var rfl) rfl))) ef3) rfl
  have T12 : (mIte (mTru (mOp gNe (mUn gTuple (mSettle (mLc [8] (mRange1 (mVar 5)) (tgName 8) (mTru (mOp (gIs not) (mOp gSubs (mVar 12) (mPk 8)) (mPure .non))) (mVar 8)))) (mPk 11))) (mRet (mPure (.bl false))) (mFl .nx)) (zL sc s7 b2 (.v (dG g)) (.v (nD pn)) (.v (nD g.length)) (.v (dNs goal)) (.v (told g pn q)) b8' (.v (dNs more)) (.v (told g pn q2)) (.v (dNs ((List.range g.length).filter fun v => (q.lookup v).isSome))) (.v (told g pn q3)) b13) = .ok .nx (zL sc s7 b2 (.v (dG g)) (.v (nD pn)) (.v (nD g.length)) (.v (dNs goal)) (.v (told g pn q)) b8' (.v (dNs more)) (.v (told g pn q2)) (.v (dNs ((List.range g.length).filter fun v => (q.lookup v).isSome))) (.v (told g pn q3)) b13) := by
    have cz := covered (z := (zL sc s7 b2 (.v (dG g)) (.v (nD pn)) (.v (nD g.length)) (.v (dNs goal)) (.v (told g pn q)) b8' (.v (dNs more)) (.v (told g pn q2)) (.v (dNs ((List.range g.length).filter fun v => (q.lookup v).isSome))) (.v (told g pn q3)) b13)) (g := g) (p := pn) (q := q3) 12 (by decide) (r_rng rfl hle) hle (Nat.le_of_ble_eq_true rfl) rfl
    rw [again] at cz
    exact r_iteF (r_tru (r_op (r_un (r_settle cz rfl) rfl) (r_pk rfl) (ne_ints _))) rfl
  have T13 : (mAsg (mCall 2 f__law_one (mCons (mVar 1) (mCons (mSettle (mLst (mCons (mPure .non) (mCons (mSettle (mUnB items (mPk 6))) (mCons (mOp gAdd (mVar 6) (mTup (mCons (mVar 5) (mPure [])))) (mCons (mTup (mCons (mPure (.int 0)) (mCons (mPure (.int 0)) (mPure [])))) (mCons (mTup (mCons (mPure (.bl true)) (mPure []))) (mCons (mTup (mCons (mBind (mPure (.int 1)) fun d => mLift (gNeg d)) (mPure []))) (mCons (mPure (.str ("0" : Str))) (mPure [])))))))))) (mPure [])))) (tgName 13)) (zL sc s7 b2 (.v (dG g)) (.v (nD pn)) (.v (nD g.length)) (.v (dNs goal)) (.v (told g pn q)) b8' (.v (dNs more)) (.v (told g pn q2)) (.v (dNs ((List.range g.length).filter fun v => (q.lookup v).isSome))) (.v (told g pn q3)) b13) = .ok .nx (zL sc s8 b2 (.v (dG g)) (.v (nD pn)) (.v (nD g.length)) (.v (dNs goal)) (.v (told g pn q)) b8' (.v (dNs more)) (.v (told g pn q2)) (.v (dNs ((List.range g.length).filter fun v => (q.lookup v).isSome))) (.v (told g pn q3)) (.v bad)) := by
    have e : gAdd (dNs goal) (.tup [nD g.length]) = some (.tup (goal.map nD ++ [nD g.length])) := gAdd_tup (by rw [List.length_map]; show _ + 1 ≤ _; omega)
    have a1 : (mLst (mCons (mPure .non) (mCons (mSettle (mUnB items (mPk 6))) (mCons (mOp gAdd (mVar 6) (mTup (mCons (mVar 5) (mPure [])))) (mCons (mTup (mCons (mPure (.int 0)) (mCons (mPure (.int 0)) (mPure [])))) (mCons (mTup (mCons (mPure (.bl true)) (mPure []))) (mCons (mTup (mCons (mBind (mPure (.int 1)) fun d => mLift (gNeg d)) (mPure []))) (mCons (mPure (.str ("0" : Str))) (mPure []))))))))) (zL sc s7 b2 (.v (dG g)) (.v (nD pn)) (.v (nD g.length)) (.v (dNs goal)) (.v (told g pn q)) b8' (.v (dNs more)) (.v (told g pn q2)) (.v (dNs ((List.range g.length).filter fun v => (q.lookup v).isSome))) (.v (told g pn q3)) b13) = .ok (.ml (bads goal g.length)) (zL sc s7 b2 (.v (dG g)) (.v (nD pn)) (.v (nD g.length)) (.v (dNs goal)) (.v (told g pn q)) b8' (.v (dNs more)) (.v (told g pn q2)) (.v (dNs ((List.range g.length).filter fun v => (q.lookup v).isSome))) (.v (told g pn q3)) b13) :=
      r_lst (ds := bads goal g.length) (r_cons rfl (r_cons (r_settle (r_unB (ds := goal.map nD) (r_pk rfl) rfl) rfl) (r_cons (r_op (r_var rfl) (r_tup (ds := [nD g.length]) (r_cons (r_var rfl) rfl) (by show 1 ≤ sizeLine; decide)) e) (r_cons (r_tup (ds := [.int 0, .int 0]) rfl (by show 2 ≤ sizeLine; decide)) (r_cons (r_tup (ds := [.bl true]) rfl (by show 1 ≤ sizeLine; decide)) (r_cons (r_tup (ds := [.int (-1)]) rfl (by show 1 ≤ sizeLine; decide)) (r_cons rfl rfl))))))) (by show 7 ≤ sizeLine; decide)
    exact r_asg (r_call (r_cons (r_var rfl) (r_cons (r_settle a1 rfl) rfl)) e13) rfl
  have T14 : (mIte (mOr (mTru (mOp gNe (mCall 3 f__law_word (mCons (mVar 3) (mCons (mVar 4) (mCons (mVar 13) (mPure []))))) (mPure (.str ("goal" : Str))))) (mOr (mTru (mOp gNe (mCall 3 f__law_word (mCons (mVar 3) (mCons (mPure (.int 2)) (mCons (mVar 13) (mPure []))))) (mPure (.str ("player" : Str))))) (mTru (mOp gNe (mCall 3 f__law_word (mCons (mVar 3) (mCons (mPure (.bl true)) (mCons (mVar 6) (mPure []))))) (mPure (.str ("player" : Str))))))) (mRet (mPure (.bl false))) (mFl .nx)) (zL sc s8 b2 (.v (dG g)) (.v (nD pn)) (.v (nD g.length)) (.v (dNs goal)) (.v (told g pn q)) b8' (.v (dNs more)) (.v (told g pn q2)) (.v (dNs ((List.range g.length).filter fun v => (q.lookup v).isSome))) (.v (told g pn q3)) (.v bad)) = .ok .nx (zL sc s8 b2 (.v (dG g)) (.v (nD pn)) (.v (nD g.length)) (.v (dNs goal)) (.v (told g pn q)) b8' (.v (dNs more)) (.v (told g pn q2)) (.v (dNs ((List.range g.length).filter fun v => (q.lookup v).isSome))) (.v (told g pn q3)) (.v bad)) :=
    r_iteF (r_orF (r_tru (r_op (r_call (r_cons (r_var rfl) (r_cons (r_var rfl) (r_cons (r_var rfl) rfl))) w1) rfl (gNe_str rfl sh_goal))) (r_orF (r_tru (r_op (r_call (r_cons (r_var rfl) (r_cons rfl (r_cons (r_var rfl) rfl))) w2) rfl (gNe_str rfl sh_player))) (r_tru (r_op (r_call (r_cons (r_var rfl) (r_cons rfl (r_cons (r_var rfl) rfl))) w3) rfl (gNe_str rfl sh_player))))) rfl
  refine ⟨s8, .v (dG g), .v (nD pn), .v (nD g.length), .v (dNs goal), .v (told g pn q), b8', .v (dNs more), .v (told g pn q2), .v (dNs ((List.range g.length).filter fun v => (q.lookup v).isSome)), .v (told g pn q3), .v bad, hs8, ?_⟩
  exact r_seq T1 (r_seq T2 (r_seq T3 (r_seq T4 (r_seq T5 (r_seq T6 (r_seq T7 (r_seq T8 (r_seq T9 (r_seq T10 (r_seq T11 (r_seq T12 (r_seq T13 T14))))))))))))
end M.K
namespace M.K
open PySem L2 M M.Att
theorem good : Good f_law := by
  intro ns hn _
  obtain ⟨s0, hs0, e0⟩ := pot_ok ns hn
  have step := for_inv (t := tgName 2) (b := bLaw) (fun j z => ∃ (s' : List SObj) (b2 b3 b4 b5 b6 b7 b8 b9 b10 b11 b12 b13 : B), Pot s' ∧ z = zL (.fz (ns.map .int)) s' b2 b3 b4 b5 b6 b7 b8 b9 b10 b11 b12 b13)
    ((List.range (4 + min 8 ns.length)).map nD) 0 (zL (.fz (ns.map .int)) s0 .un .un .un .un .un .un .un .un .un .un .un .un) (fun j d hd z hz => by
      obtain ⟨s', b2, b3, b4, b5, b6, b7, b8, b9, b10, b11, b12, b13, hs', rfl⟩ := hz
      obtain ⟨s2, c3, c4, c5, c6, c7, c8, c9, c10, c11, c12, c13, hs2, run⟩ := turn_ok (sc := .fz (ns.map .int)) hs' (.v d) b3 b4 b5 b6 b7 b8 b9 b10 b11 b12 b13
      exact ⟨_, rfl, .nx, _, run, .inl rfl, s2, _, _, _, _, _, _, _, _, _, _, _, _, hs2, rfl⟩) ⟨s0, _, _, _, _, _, _, _, _, _, _, _, _, hs0, rfl⟩
  obtain ⟨z', run, s', b2, b3, b4, b5, b6, b7, b8, b9, b10, b11, b12, b13, hs', rfl⟩ := step
  have gl : gLen (.fz (ns.map .int)) = some (nD ns.length) := by
    show some (D.int ((ns.map D.int).length : Int)) = _
    rw [List.length_map]
  refine ⟨s', ?_⟩
  refine f_rt (z1 := zL (.fz (ns.map .int)) s' b2 b3 b4 b5 b6 b7 b8 b9 b10 b11 b12 b13) ?_
  refine r_seq (z1 := zL (.fz (ns.map .int)) s0 .un .un .un .un .un .un .un .un .un .un .un .un) (r_asg (r_call (r_cons (r_var (by rfl)) (by rfl)) e0) (by rfl)) ?_
  refine r_seq (r_for (r_range (j := 4 + min 8 ns.length) (r_op (by rfl) (r_bin (r_un (r_pk (by rfl)) gl) (by rfl) (gMin2_n ns.length 8)) (gAdd_n 4 _)) (by omega)) run) ?_
  exact r_ret (by rfl)
end M.K
namespace M.K
open PySem L2 M
open PyProof.Rows (envOfC)
theorem all_mk {l : PySem.W.OpenLaw} {w : PySem.World} {K : PySem.W.Frag} {h : Heap} {mg : Str → Option Value} {fa : Addr} (X : K.In h) (G : h.Ns mainGlobals mg) (hfa : mg "law" = some (.ref fa))
    {f0 : Addr}
    {od0 an0 : Option Addr}
    {sl0 : Array (Option Value)}
    {oc0 kV0 dc0 pm0 cd0 ct0 : Value}
    (a0 : PySem.W.nsIn K mainGlobals ("_law_die" : Str) = some (some (.ref f0)))
    (l0 : K.lookup f0 = some ⟨oc0, od0, .func (PySem.W.fnOf ("_law_die" : Str) ("_law_die" : Str) (defArgs st__law_die) (defBody st__law_die) (defScope st__law_die) .none kV0 dc0 pm0 an0 cd0 ct0), sl0⟩)
    (c0 : PySem.W.codeIn K cd0 ("_law_die" : Str) = true)
    (k0 : PySem.W.keepIn K (.ref f0) = true)
    {f1 : Addr}
    {od1 an1 : Option Addr}
    {sl1 : Array (Option Value)}
    {oc1 kV1 dc1 pm1 cd1 ct1 : Value}
    (a1 : PySem.W.nsIn K mainGlobals ("_law_alike" : Str) = some (some (.ref f1)))
    (l1 : K.lookup f1 = some ⟨oc1, od1, .func (PySem.W.fnOf ("_law_alike" : Str) ("_law_alike" : Str) (defArgs st__law_alike) (defBody st__law_alike) (defScope st__law_alike) .none kV1 dc1 pm1 an1 cd1 ct1), sl1⟩)
    (c1 : PySem.W.codeIn K cd1 ("_law_alike" : Str) = true)
    (k1 : PySem.W.keepIn K (.ref f1) = true)
    {f2 : Addr}
    {od2 an2 : Option Addr}
    {sl2 : Array (Option Value)}
    {oc2 kV2 dc2 pm2 cd2 ct2 : Value}
    (a2 : PySem.W.nsIn K mainGlobals ("_law_entry_right" : Str) = some (some (.ref f2)))
    (l2 : K.lookup f2 = some ⟨oc2, od2, .func (PySem.W.fnOf ("_law_entry_right" : Str) ("_law_entry_right" : Str) (defArgs st__law_entry_right) (defBody st__law_entry_right) (defScope st__law_entry_right) .none kV2 dc2 pm2 an2 cd2 ct2), sl2⟩)
    (c2 : PySem.W.codeIn K cd2 ("_law_entry_right" : Str) = true)
    (k2 : PySem.W.keepIn K (.ref f2) = true)
    {f3 : Addr}
    {od3 an3 : Option Addr}
    {sl3 : Array (Option Value)}
    {oc3 kV3 dc3 pm3 cd3 ct3 : Value}
    (a3 : PySem.W.nsIn K mainGlobals ("_law_mixed" : Str) = some (some (.ref f3)))
    (l3 : K.lookup f3 = some ⟨oc3, od3, .func (PySem.W.fnOf ("_law_mixed" : Str) ("_law_mixed" : Str) (defArgs st__law_mixed) (defBody st__law_mixed) (defScope st__law_mixed) .none kV3 dc3 pm3 an3 cd3 ct3), sl3⟩)
    (c3 : PySem.W.codeIn K cd3 ("_law_mixed" : Str) = true)
    (k3 : PySem.W.keepIn K (.ref f3) = true)
    {f4 : Addr}
    {od4 an4 : Option Addr}
    {sl4 : Array (Option Value)}
    {oc4 kV4 dc4 pm4 cd4 ct4 : Value}
    (a4 : PySem.W.nsIn K mainGlobals ("_law_one" : Str) = some (some (.ref f4)))
    (l4 : K.lookup f4 = some ⟨oc4, od4, .func (PySem.W.fnOf ("_law_one" : Str) ("_law_one" : Str) (defArgs st__law_one) (defBody st__law_one) (defScope st__law_one) .none kV4 dc4 pm4 an4 cd4 ct4), sl4⟩)
    (c4 : PySem.W.codeIn K cd4 ("_law_one" : Str) = true)
    (k4 : PySem.W.keepIn K (.ref f4) = true)
    {f5 : Addr}
    {od5 an5 : Option Addr}
    {sl5 : Array (Option Value)}
    {oc5 kV5 dc5 pm5 cd5 ct5 : Value}
    (a5 : PySem.W.nsIn K mainGlobals ("_law_game" : Str) = some (some (.ref f5)))
    (l5 : K.lookup f5 = some ⟨oc5, od5, .func (PySem.W.fnOf ("_law_game" : Str) ("_law_game" : Str) (defArgs st__law_game) (defBody st__law_game) (defScope st__law_game) .none kV5 dc5 pm5 an5 cd5 ct5), sl5⟩)
    (c5 : PySem.W.codeIn K cd5 ("_law_game" : Str) = true)
    (k5 : PySem.W.keepIn K (.ref f5) = true)
    {f6 : Addr}
    {od6 an6 : Option Addr}
    {sl6 : Array (Option Value)}
    {oc6 kV6 dc6 pm6 cd6 ct6 : Value}
    (a6 : PySem.W.nsIn K mainGlobals ("_law_pot" : Str) = some (some (.ref f6)))
    (l6 : K.lookup f6 = some ⟨oc6, od6, .func (PySem.W.fnOf ("_law_pot" : Str) ("_law_pot" : Str) (defArgs st__law_pot) (defBody st__law_pot) (defScope st__law_pot) .none kV6 dc6 pm6 an6 cd6 ct6), sl6⟩)
    (c6 : PySem.W.codeIn K cd6 ("_law_pot" : Str) = true)
    (k6 : PySem.W.keepIn K (.ref f6) = true)
    {f7 : Addr}
    {od7 an7 : Option Addr}
    {sl7 : Array (Option Value)}
    {oc7 kV7 dc7 pm7 cd7 ct7 : Value}
    (a7 : PySem.W.nsIn K mainGlobals ("is_int" : Str) = some (some (.ref f7)))
    (l7 : K.lookup f7 = some ⟨oc7, od7, .func (PySem.W.fnOf ("is_int" : Str) ("is_int" : Str) (defArgs st_is_int) (defBody st_is_int) (defScope st_is_int) .none kV7 dc7 pm7 an7 cd7 ct7), sl7⟩)
    (c7 : PySem.W.codeIn K cd7 ("is_int" : Str) = true)
    (k7 : PySem.W.keepIn K (.ref f7) = true)
    {f8 : Addr}
    {od8 an8 : Option Addr}
    {sl8 : Array (Option Value)}
    {oc8 kV8 dc8 pm8 cd8 ct8 : Value}
    (a8 : PySem.W.nsIn K mainGlobals ("within" : Str) = some (some (.ref f8)))
    (l8 : K.lookup f8 = some ⟨oc8, od8, .func (PySem.W.fnOf ("within" : Str) ("within" : Str) (defArgs st_within) (defBody st_within) (defScope st_within) .none kV8 dc8 pm8 an8 cd8 ct8), sl8⟩)
    (c8 : PySem.W.codeIn K cd8 ("within" : Str) = true)
    (k8 : PySem.W.keepIn K (.ref f8) = true)
    {f9 : Addr}
    {od9 an9 : Option Addr}
    {sl9 : Array (Option Value)}
    {oc9 kV9 dc9 pm9 cd9 ct9 : Value}
    (a9 : PySem.W.nsIn K mainGlobals ("are_ascending" : Str) = some (some (.ref f9)))
    (l9 : K.lookup f9 = some ⟨oc9, od9, .func (PySem.W.fnOf ("are_ascending" : Str) ("are_ascending" : Str) (defArgs st_are_ascending) (defBody st_are_ascending) (defScope st_are_ascending) .none kV9 dc9 pm9 an9 cd9 ct9), sl9⟩)
    (c9 : PySem.W.codeIn K cd9 ("are_ascending" : Str) = true)
    (k9 : PySem.W.keepIn K (.ref f9) = true)
    {f10 : Addr}
    {od10 an10 : Option Addr}
    {sl10 : Array (Option Value)}
    {oc10 kV10 dc10 pm10 cd10 ct10 : Value}
    (a10 : PySem.W.nsIn K mainGlobals ("is_position" : Str) = some (some (.ref f10)))
    (l10 : K.lookup f10 = some ⟨oc10, od10, .func (PySem.W.fnOf ("is_position" : Str) ("is_position" : Str) (defArgs st_is_position) (defBody st_is_position) (defScope st_is_position) .none kV10 dc10 pm10 an10 cd10 ct10), sl10⟩)
    (c10 : PySem.W.codeIn K cd10 ("is_position" : Str) = true)
    (k10 : PySem.W.keepIn K (.ref f10) = true)
    {f11 : Addr}
    {od11 an11 : Option Addr}
    {sl11 : Array (Option Value)}
    {oc11 kV11 dc11 pm11 cd11 ct11 : Value}
    (a11 : PySem.W.nsIn K mainGlobals ("is_game" : Str) = some (some (.ref f11)))
    (l11 : K.lookup f11 = some ⟨oc11, od11, .func (PySem.W.fnOf ("is_game" : Str) ("is_game" : Str) (defArgs st_is_game) (defBody st_is_game) (defScope st_is_game) .none kV11 dc11 pm11 an11 cd11 ct11), sl11⟩)
    (c11 : PySem.W.codeIn K cd11 ("is_game" : Str) = true)
    (k11 : PySem.W.keepIn K (.ref f11) = true)
    {f12 : Addr}
    {od12 an12 : Option Addr}
    {sl12 : Array (Option Value)}
    {oc12 kV12 dc12 pm12 cd12 ct12 : Value}
    (a12 : PySem.W.nsIn K mainGlobals ("need_game" : Str) = some (some (.ref f12)))
    (l12 : K.lookup f12 = some ⟨oc12, od12, .func (PySem.W.fnOf ("need_game" : Str) ("need_game" : Str) (defArgs st_need_game) (defBody st_need_game) (defScope st_need_game) .none kV12 dc12 pm12 an12 cd12 ct12), sl12⟩)
    (c12 : PySem.W.codeIn K cd12 ("need_game" : Str) = true)
    (k12 : PySem.W.keepIn K (.ref f12) = true)
    {f13 : Addr}
    {od13 an13 : Option Addr}
    {sl13 : Array (Option Value)}
    {oc13 kV13 dc13 pm13 cd13 ct13 : Value}
    (a13 : PySem.W.nsIn K mainGlobals ("need_player" : Str) = some (some (.ref f13)))
    (l13 : K.lookup f13 = some ⟨oc13, od13, .func (PySem.W.fnOf ("need_player" : Str) ("need_player" : Str) (defArgs st_need_player) (defBody st_need_player) (defScope st_need_player) .none kV13 dc13 pm13 an13 cd13 ct13), sl13⟩)
    (c13 : PySem.W.codeIn K cd13 ("need_player" : Str) = true)
    (k13 : PySem.W.keepIn K (.ref f13) = true)
    {f14 : Addr}
    {od14 an14 : Option Addr}
    {sl14 : Array (Option Value)}
    {oc14 kV14 dc14 pm14 cd14 ct14 : Value}
    (a14 : PySem.W.nsIn K mainGlobals ("positions_before" : Str) = some (some (.ref f14)))
    (l14 : K.lookup f14 = some ⟨oc14, od14, .func (PySem.W.fnOf ("positions_before" : Str) ("positions_before" : Str) (defArgs st_positions_before) (defBody st_positions_before) (defScope st_positions_before) .none kV14 dc14 pm14 an14 cd14 ct14), sl14⟩)
    (c14 : PySem.W.codeIn K cd14 ("positions_before" : Str) = true)
    (k14 : PySem.W.keepIn K (.ref f14) = true)
    {f15 : Addr}
    {od15 an15 : Option Addr}
    {sl15 : Array (Option Value)}
    {oc15 kV15 dc15 pm15 cd15 ct15 : Value}
    (a15 : PySem.W.nsIn K mainGlobals ("step_down" : Str) = some (some (.ref f15)))
    (l15 : K.lookup f15 = some ⟨oc15, od15, .func (PySem.W.fnOf ("step_down" : Str) ("step_down" : Str) (defArgs st_step_down) (defBody st_step_down) (defScope st_step_down) .none kV15 dc15 pm15 an15 cd15 ct15), sl15⟩)
    (c15 : PySem.W.codeIn K cd15 ("step_down" : Str) = true)
    (k15 : PySem.W.keepIn K (.ref f15) = true)
    {f16 : Addr}
    {od16 an16 : Option Addr}
    {sl16 : Array (Option Value)}
    {oc16 kV16 dc16 pm16 cd16 ct16 : Value}
    (a16 : PySem.W.nsIn K mainGlobals ("steps_to" : Str) = some (some (.ref f16)))
    (l16 : K.lookup f16 = some ⟨oc16, od16, .func (PySem.W.fnOf ("steps_to" : Str) ("steps_to" : Str) (defArgs st_steps_to) (defBody st_steps_to) (defScope st_steps_to) .none kV16 dc16 pm16 an16 cd16 ct16), sl16⟩)
    (c16 : PySem.W.codeIn K cd16 ("steps_to" : Str) = true)
    (k16 : PySem.W.keepIn K (.ref f16) = true)
    {f17 : Addr}
    {od17 an17 : Option Addr}
    {sl17 : Array (Option Value)}
    {oc17 kV17 dc17 pm17 cd17 ct17 : Value}
    (a17 : PySem.W.nsIn K mainGlobals ("steps_entries" : Str) = some (some (.ref f17)))
    (l17 : K.lookup f17 = some ⟨oc17, od17, .func (PySem.W.fnOf ("steps_entries" : Str) ("steps_entries" : Str) (defArgs st_steps_entries) (defBody st_steps_entries) (defScope st_steps_entries) .none kV17 dc17 pm17 an17 cd17 ct17), sl17⟩)
    (c17 : PySem.W.codeIn K cd17 ("steps_entries" : Str) = true)
    (k17 : PySem.W.keepIn K (.ref f17) = true)
    {f18 : Addr}
    {od18 an18 : Option Addr}
    {sl18 : Array (Option Value)}
    {oc18 kV18 dc18 pm18 cd18 ct18 : Value}
    (a18 : PySem.W.nsIn K mainGlobals ("forced_steps" : Str) = some (some (.ref f18)))
    (l18 : K.lookup f18 = some ⟨oc18, od18, .func (PySem.W.fnOf ("forced_steps" : Str) ("forced_steps" : Str) (defArgs st_forced_steps) (defBody st_forced_steps) (defScope st_forced_steps) .none kV18 dc18 pm18 an18 cd18 ct18), sl18⟩)
    (c18 : PySem.W.codeIn K cd18 ("forced_steps" : Str) = true)
    (k18 : PySem.W.keepIn K (.ref f18) = true)
    {f19 : Addr}
    {od19 an19 : Option Addr}
    {sl19 : Array (Option Value)}
    {oc19 kV19 dc19 pm19 cd19 ct19 : Value}
    (a19 : PySem.W.nsIn K mainGlobals ("_law_word" : Str) = some (some (.ref f19)))
    (l19 : K.lookup f19 = some ⟨oc19, od19, .func (PySem.W.fnOf ("_law_word" : Str) ("_law_word" : Str) (defArgs st__law_word) (defBody st__law_word) (defScope st__law_word) .none kV19 dc19 pm19 an19 cd19 ct19), sl19⟩)
    (c19 : PySem.W.codeIn K cd19 ("_law_word" : Str) = true)
    (k19 : PySem.W.keepIn K (.ref f19) = true)
    {f20 : Addr}
    {od20 an20 : Option Addr}
    {sl20 : Array (Option Value)}
    {oc20 kV20 dc20 pm20 cd20 ct20 : Value}
    (a20 : PySem.W.nsIn K mainGlobals ("law" : Str) = some (some (.ref f20)))
    (l20 : K.lookup f20 = some ⟨oc20, od20, .func (PySem.W.fnOf ("law" : Str) ("law" : Str) (defArgs st_law) (defBody st_law) (defScope st_law) .none kV20 dc20 pm20 an20 cd20 ct20), sl20⟩)
    (c20 : PySem.W.codeIn K cd20 ("law" : Str) = true)
    (k20 : PySem.W.keepIn K (.ref f20) = true)
    (z_all : PySem.W.nsIn K mainGlobals ("all" : Str) = some none)
    (z_bool : PySem.W.nsIn K mainGlobals ("bool" : Str) = some none)
    (z_int : PySem.W.nsIn K mainGlobals ("int" : Str) = some none)
    (z_isinstance : PySem.W.nsIn K mainGlobals ("isinstance" : Str) = some none)
    (z_len : PySem.W.nsIn K mainGlobals ("len" : Str) = some none)
    (z_list : PySem.W.nsIn K mainGlobals ("list" : Str) = some none)
    (z_max : PySem.W.nsIn K mainGlobals ("max" : Str) = some none)
    (z_min : PySem.W.nsIn K mainGlobals ("min" : Str) = some none)
    (z_range : PySem.W.nsIn K mainGlobals ("range" : Str) = some none)
    (z_set : PySem.W.nsIn K mainGlobals ("set" : Str) = some none)
    (z_sorted : PySem.W.nsIn K mainGlobals ("sorted" : Str) = some none)
    (z_str : PySem.W.nsIn K mainGlobals ("str" : Str) = some none)
    (z_tuple : PySem.W.nsIn K mainGlobals ("tuple" : Str) = some none)
    {t_MOST_MARKS : Tok}
    (g_MOST_MARKS : PySem.W.nsIn K mainGlobals ("MOST_MARKS" : Str) = some (some (.int 20 t_MOST_MARKS)))
    {t_MOST_NEXTS : Tok}
    (g_MOST_NEXTS : PySem.W.nsIn K mainGlobals ("MOST_NEXTS" : Str) = some (some (.int 1002 t_MOST_NEXTS)))
    {t_MOST_POSITIONS : Tok}
    (g_MOST_POSITIONS : PySem.W.nsIn K mainGlobals ("MOST_POSITIONS" : Str) = some (some (.int 10000 t_MOST_POSITIONS)))
    {C_BadGame : Addr}
    (e_BadGame : PySem.W.nsIn K mainGlobals ("BadGame" : Str) = some (some (.ref C_BadGame)))
    (e1_BadGame : PySem.W.excIn K C_BadGame [.type "ValueError", .type "Exception", .type "BaseException", .type "object"] "ValueError.__new__" = true)
    (e2_BadGame : PySem.W.keepIn K (.ref C_BadGame) = true)
    (e3_BadGame : PySem.W.subIn K (.ref C_BadGame) (.type "BaseException") = some true)
    (e4_BadGame : PySem.W.typeIn K (.ref C_BadGame) = some (.type "type"))
    {C_BadGoal : Addr}
    (e_BadGoal : PySem.W.nsIn K mainGlobals ("BadGoal" : Str) = some (some (.ref C_BadGoal)))
    (e1_BadGoal : PySem.W.excIn K C_BadGoal [.type "ValueError", .type "Exception", .type "BaseException", .type "object"] "ValueError.__new__" = true)
    (e2_BadGoal : PySem.W.keepIn K (.ref C_BadGoal) = true)
    (e3_BadGoal : PySem.W.subIn K (.ref C_BadGoal) (.type "BaseException") = some true)
    (e4_BadGoal : PySem.W.typeIn K (.ref C_BadGoal) = some (.type "type"))
    {C_BadPlayer : Addr}
    (e_BadPlayer : PySem.W.nsIn K mainGlobals ("BadPlayer" : Str) = some (some (.ref C_BadPlayer)))
    (e1_BadPlayer : PySem.W.excIn K C_BadPlayer [.type "ValueError", .type "Exception", .type "BaseException", .type "object"] "ValueError.__new__" = true)
    (e2_BadPlayer : PySem.W.keepIn K (.ref C_BadPlayer) = true)
    (e3_BadPlayer : PySem.W.subIn K (.ref C_BadPlayer) (.type "BaseException") = some true)
    (e4_BadPlayer : PySem.W.typeIn K (.ref C_BadPlayer) = some (.type "type"))
    (i_BadGoal : PySem.W.isClsIn K C_BadGoal = true)
    (i_BadPlayer : PySem.W.isClsIn K C_BadPlayer = true)
    (p_BadGoal_BadGoal : PySem.W.subIn K (.ref C_BadGoal) (.ref C_BadGoal) = some true)
    (p_BadGoal_BadPlayer : PySem.W.subIn K (.ref C_BadGoal) (.ref C_BadPlayer) = some false)
    (p_BadPlayer_BadPlayer : PySem.W.subIn K (.ref C_BadPlayer) (.ref C_BadPlayer) = some true)
    : ∃ fd : FuncData, (∀ (s : Shared) (v : Value), BindsTo s fd ⟨[v], []⟩ [("script", v)]) ∧ ∀ base : Heap, K.In base → base.Ns mainGlobals mg → FnOk l.prog w K mg base (L2.CX l.prog w) 8 fa fd ["script"] (spOf ⟨l.prog, w, K, mg, base⟩ 1 f_law) := by
  have e := hfa.symm.trans (PySem.W.mg_of X G a20)
  cases e
  refine ⟨PySem.W.fnOf "law" "law" (defArgs st_law) (defBody st_law) (defScope st_law) .none kV20 dc20 pm20 an20 cd20 ct20, fun s v => .of_eq rfl, fun base _ _ => ?_⟩
  have FX : Fx ⟨l.prog, w, K, mg, base⟩ := ⟨⟨f0, _, fun_mk (st := st__law_die) l0 c0 k0, PySem.W.mg_of X G a0⟩,
    ⟨f1, _, fun_mk (st := st__law_alike) l1 c1 k1, PySem.W.mg_of X G a1⟩,
    ⟨f2, _, fun_mk (st := st__law_entry_right) l2 c2 k2, PySem.W.mg_of X G a2⟩,
    ⟨f3, _, fun_mk (st := st__law_mixed) l3 c3 k3, PySem.W.mg_of X G a3⟩,
    ⟨f4, _, fun_mk (st := st__law_one) l4 c4 k4, PySem.W.mg_of X G a4⟩,
    ⟨f5, _, fun_mk (st := st__law_game) l5 c5 k5, PySem.W.mg_of X G a5⟩,
    ⟨f6, _, fun_mk (st := st__law_pot) l6 c6 k6, PySem.W.mg_of X G a6⟩,
    ⟨f7, _, fun_mk (st := st_is_int) l7 c7 k7, PySem.W.mg_of X G a7⟩,
    ⟨f8, _, fun_mk (st := st_within) l8 c8 k8, PySem.W.mg_of X G a8⟩,
    ⟨f9, _, fun_mk (st := st_are_ascending) l9 c9 k9, PySem.W.mg_of X G a9⟩,
    ⟨f10, _, fun_mk (st := st_is_position) l10 c10 k10, PySem.W.mg_of X G a10⟩,
    ⟨f11, _, fun_mk (st := st_is_game) l11 c11 k11, PySem.W.mg_of X G a11⟩,
    ⟨f12, _, fun_mk (st := st_need_game) l12 c12 k12, PySem.W.mg_of X G a12⟩,
    ⟨f13, _, fun_mk (st := st_need_player) l13 c13 k13, PySem.W.mg_of X G a13⟩,
    ⟨f14, _, fun_mk (st := st_positions_before) l14 c14 k14, PySem.W.mg_of X G a14⟩,
    ⟨f15, _, fun_mk (st := st_step_down) l15 c15 k15, PySem.W.mg_of X G a15⟩,
    ⟨f16, _, fun_mk (st := st_steps_to) l16 c16 k16, PySem.W.mg_of X G a16⟩,
    ⟨f17, _, fun_mk (st := st_steps_entries) l17 c17 k17, PySem.W.mg_of X G a17⟩,
    ⟨f18, _, fun_mk (st := st_forced_steps) l18 c18 k18, PySem.W.mg_of X G a18⟩,
    ⟨f19, _, fun_mk (st := st__law_word) l19 c19 k19, PySem.W.mg_of X G a19⟩,
    ⟨fa, _, fun_mk (st := st_law) l20 c20 k20, PySem.W.mg_of X G a20⟩,
    PySem.W.mg_none_of X G z_all,
    PySem.W.mg_none_of X G z_bool,
    PySem.W.mg_none_of X G z_int,
    PySem.W.mg_none_of X G z_isinstance,
    PySem.W.mg_none_of X G z_len,
    PySem.W.mg_none_of X G z_list,
    PySem.W.mg_none_of X G z_max,
    PySem.W.mg_none_of X G z_min,
    PySem.W.mg_none_of X G z_range,
    PySem.W.mg_none_of X G z_set,
    PySem.W.mg_none_of X G z_sorted,
    PySem.W.mg_none_of X G z_str,
    PySem.W.mg_none_of X G z_tuple,
    ⟨t_MOST_MARKS, PySem.W.mg_of X G g_MOST_MARKS⟩,
    ⟨t_MOST_NEXTS, PySem.W.mg_of X G g_MOST_NEXTS⟩,
    ⟨t_MOST_POSITIONS, PySem.W.mg_of X G g_MOST_POSITIONS⟩,
    ⟨⟨C_BadGame, PySem.W.mg_of X G e_BadGame, e1_BadGame, e2_BadGame, e3_BadGame, e4_BadGame⟩⟩,
    ⟨⟨C_BadGoal, PySem.W.mg_of X G e_BadGoal, e1_BadGoal, e2_BadGoal, e3_BadGoal, e4_BadGoal⟩⟩,
    ⟨⟨C_BadPlayer, PySem.W.mg_of X G e_BadPlayer, e1_BadPlayer, e2_BadPlayer, e3_BadPlayer, e4_BadPlayer⟩⟩,
    by show PySem.W.exmOne K ((mg ("BadGoal" : Str)).getD .none) ((mg ("BadGoal" : Str)).getD .none) = _; rw [PySem.W.mg_of X G e_BadGoal]; exact exm_mk e3_BadGoal i_BadGoal e4_BadGoal p_BadGoal_BadGoal,
    by show PySem.W.exmOne K ((mg ("BadGoal" : Str)).getD .none) ((mg ("BadPlayer" : Str)).getD .none) = _; rw [PySem.W.mg_of X G e_BadGoal, PySem.W.mg_of X G e_BadPlayer]; exact exm_mk e3_BadPlayer i_BadPlayer e4_BadPlayer p_BadGoal_BadPlayer,
    by show PySem.W.exmOne K ((mg ("BadPlayer" : Str)).getD .none) ((mg ("BadPlayer" : Str)).getD .none) = _; rw [PySem.W.mg_of X G e_BadPlayer]; exact exm_mk e3_BadPlayer i_BadPlayer e4_BadPlayer p_BadPlayer_BadPlayer⟩
  exact fn_law FX (fun_mk (st := st_law) l20 c20 k20)
end M.K
open PySem PySem.W PyProof.Rows
set_option maxRecDepth 100000 in
set_option maxHeartbeats 0 in
theorem PySem.Challenge.cw_callgames_k16_whole_forced_steps_and_tra_holds : PySem.Challenge.rw_callgames_k16_whole_forced_steps_and_tra.Holds := by
  w_on; o_law; k_head; (case hw => w_witness2)
  k_fill
  refine M.walk (l := PySem.Challenge.rw_callgames_k16_whole_forced_steps_and_tra) (f := M.K.f_law) (k := 8) rfl rfl ⟨rfl, by decide, by decide⟩ (fun w h Y => PySem.W.kIn_of Y) M.K.good ?F
  case F =>
    intro w mg fa h KX G hmg
    refine' M.K.all_mk KX G hmg ?a0 ?l0 ?c0 ?k0 ?a1 ?l1 ?c1 ?k1 ?a2 ?l2 ?c2 ?k2 ?a3 ?l3 ?c3 ?k3 ?a4 ?l4 ?c4 ?k4 ?a5 ?l5 ?c5 ?k5 ?a6 ?l6 ?c6 ?k6 ?a7 ?l7 ?c7 ?k7 ?a8 ?l8 ?c8 ?k8 ?a9 ?l9 ?c9 ?k9 ?a10 ?l10 ?c10 ?k10 ?a11 ?l11 ?c11 ?k11 ?a12 ?l12 ?c12 ?k12 ?a13 ?l13 ?c13 ?k13 ?a14 ?l14 ?c14 ?k14 ?a15 ?l15 ?c15 ?k15 ?a16 ?l16 ?c16 ?k16 ?a17 ?l17 ?c17 ?k17 ?a18 ?l18 ?c18 ?k18 ?a19 ?l19 ?c19 ?k19 ?a20 ?l20 ?c20 ?k20 ?z_all ?z_bool ?z_int ?z_isinstance ?z_len ?z_list ?z_max ?z_min ?z_range ?z_set ?z_sorted ?z_str ?z_tuple ?g_MOST_MARKS ?g_MOST_NEXTS ?g_MOST_POSITIONS ?e_BadGame ?e1_BadGame ?e2_BadGame ?e3_BadGame ?e4_BadGame ?e_BadGoal ?e1_BadGoal ?e2_BadGoal ?e3_BadGoal ?e4_BadGoal ?e_BadPlayer ?e1_BadPlayer ?e2_BadPlayer ?e3_BadPlayer ?e4_BadPlayer ?i_BadGoal ?i_BadPlayer ?p_BadGoal_BadGoal ?p_BadGoal_BadPlayer ?p_BadPlayer_BadPlayer
    (case a0 => k_is)
    (case l0 => k_is)
    (case c0 => k_is)
    (case k0 => k_is)
    (case a1 => k_is)
    (case l1 => k_is)
    (case c1 => k_is)
    (case k1 => k_is)
    (case a2 => k_is)
    (case l2 => k_is)
    (case c2 => k_is)
    (case k2 => k_is)
    (case a3 => k_is)
    (case l3 => k_is)
    (case c3 => k_is)
    (case k3 => k_is)
    (case a4 => k_is)
    (case l4 => k_is)
    (case c4 => k_is)
    (case k4 => k_is)
    (case a5 => k_is)
    (case l5 => k_is)
    (case c5 => k_is)
    (case k5 => k_is)
    (case a6 => k_is)
    (case l6 => k_is)
    (case c6 => k_is)
    (case k6 => k_is)
    (case a7 => k_is)
    (case l7 => k_is)
    (case c7 => k_is)
    (case k7 => k_is)
    (case a8 => k_is)
    (case l8 => k_is)
    (case c8 => k_is)
    (case k8 => k_is)
    (case a9 => k_is)
    (case l9 => k_is)
    (case c9 => k_is)
    (case k9 => k_is)
    (case a10 => k_is)
    (case l10 => k_is)
    (case c10 => k_is)
    (case k10 => k_is)
    (case a11 => k_is)
    (case l11 => k_is)
    (case c11 => k_is)
    (case k11 => k_is)
    (case a12 => k_is)
    (case l12 => k_is)
    (case c12 => k_is)
    (case k12 => k_is)
    (case a13 => k_is)
    (case l13 => k_is)
    (case c13 => k_is)
    (case k13 => k_is)
    (case a14 => k_is)
    (case l14 => k_is)
    (case c14 => k_is)
    (case k14 => k_is)
    (case a15 => k_is)
    (case l15 => k_is)
    (case c15 => k_is)
    (case k15 => k_is)
    (case a16 => k_is)
    (case l16 => k_is)
    (case c16 => k_is)
    (case k16 => k_is)
    (case a17 => k_is)
    (case l17 => k_is)
    (case c17 => k_is)
    (case k17 => k_is)
    (case a18 => k_is)
    (case l18 => k_is)
    (case c18 => k_is)
    (case k18 => k_is)
    (case a19 => k_is)
    (case l19 => k_is)
    (case c19 => k_is)
    (case k19 => k_is)
    (case a20 => k_is)
    (case l20 => k_is)
    (case c20 => k_is)
    (case k20 => k_is)
    (case z_all => k_is)
    (case z_bool => k_is)
    (case z_int => k_is)
    (case z_isinstance => k_is)
    (case z_len => k_is)
    (case z_list => k_is)
    (case z_max => k_is)
    (case z_min => k_is)
    (case z_range => k_is)
    (case z_set => k_is)
    (case z_sorted => k_is)
    (case z_str => k_is)
    (case z_tuple => k_is)
    (case g_MOST_MARKS => k_is)
    (case g_MOST_NEXTS => k_is)
    (case g_MOST_POSITIONS => k_is)
    (case e_BadGame => k_is)
    (case e1_BadGame => k_exc)
    (case e2_BadGame => k_is)
    (case e3_BadGame => k_is)
    (case e4_BadGame => k_is)
    (case e_BadGoal => k_is)
    (case e1_BadGoal => k_exc)
    (case e2_BadGoal => k_is)
    (case e3_BadGoal => k_is)
    (case e4_BadGoal => k_is)
    (case e_BadPlayer => k_is)
    (case e1_BadPlayer => k_exc)
    (case e2_BadPlayer => k_is)
    (case e3_BadPlayer => k_is)
    (case e4_BadPlayer => k_is)
    (case i_BadGoal => k_is)
    (case i_BadPlayer => k_is)
    (case p_BadGoal_BadGoal => k_is)
    (case p_BadGoal_BadPlayer => k_is)
    (case p_BadPlayer_BadPlayer => k_is)
