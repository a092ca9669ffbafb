import PyProof.Rows.All
import Wide.All
import OpenK.AllK
import Wide.FinOn
import HandS.ForMost
import HandS.Deep
import HandS.IsInst
import HandS.Zip
import HandS.Walk
import HandS.TupAny
import KE.KDictKeyed
import KE.KDictWalk
import HandS.Defaults
import HandS.TupLe
import KE.GoesEnum
import KE.SortData
import KE.KDictSum
import PyProof.TupleOfSeq
import HandS.TupSets
import HandS.Conv
import HandS.SetBool
import HandS.WordsDict
import HandS.HeadEnd
import HandS.RaiseMore
import PyProof.ReprRoads
import PySem.Challenge.RW_pegwebs_k13_whole_more_arrows
import KE.KStateDown
import Lean
import HandS.Head0
import HandS.Head1
import HandS.Head2
import HandS.HeadHook1
import HandS.HeadHook2
import HandS.HeadHook3
import HandS.HeadHook4
set_option Elab.async false
set_option linter.all false
set_option maxRecDepth 100000
set_option maxHeartbeats 4000000
/-! DL0: plain data, what it is in an abstract heap, states of a def by plain data -/
namespace DL
open PySem L2
/-- plain data; web, game: instances of the two classes -/
inductive D where
  | non | bl (b : Bool) | int (i : Int) | str (x : Str)
  | tup (ds : List D) | lst (ds : List D) | dct (ks vs : List D)
  | web (k : Int) (ar : List D) | game (k : Int) (ws : List D)
structure Tx where
  prog : Program
  w : World
  CW : Addr
  CG : Addr
def wf (k : Int) (c t : Addr) : List (Str × V) := [("pegs", .int k), ("_costs", .ref c), ("arrows", .ref t)]
def gf (k : Int) (t : Addr) (n : Int) : List (Str × V) := [("pegs", .int k), ("webs", .ref t), ("discs", .int n)]
mutual
def ofK : NestedKey → D
  | .none => .non
  | .num i => .int i
  | .text x => .str x
  | .tup ks => .tup (ofKs ks)
def ofKs : List NestedKey → List D
  | [] => []
  | k :: ks => ofK k :: ofKs ks
end
/-- the dict at a with tuple keys: xs its keys, the keys' own addresses, the values -/
def DnO (T : Tx) (a : Addr) (xs : List (NestedKey × Addr × V)) (ep : Nat) : HO := .ext fun h => xs.length ≤ sizeLine ∧ (a == sysModules) = false ∧
  ∃ ys : List (NestedKey × Addr × Value), Paired (fun (p : NestedKey × Addr × V) (q : NestedKey × Addr × Value) => p.1 = q.1 ∧ p.2.1 = q.2.1 ∧ RelV p.2.2 q.2.2) xs ys ∧
  ∃ o es, h.get? a = some o ∧ o.ExactDict ∧ o.data = .dict es ep ∧ es.toList = ys.map (entryOfKey (nestedKind T.prog T.w)) ∧ (ys.map (·.1)).Nodup
mutual
/-- the value v stands for the datum d -/
inductive Rp (T : Tx) (H : Hp) : V → D → Prop
  | non : Rp T H .non .non
  | bl (b : Bool) : Rp T H (.bl b) (.bl b)
  | int (i : Int) : Rp T H (.int i) (.int i)
  | str (x : Str) : Rp T H (.str x) (.str x)
  | tup {a : Addr} {xs : List V} {ds : List D} : H a = some (.tup xs) → RpA T H xs ds → Rp T H (.ref a) (.tup ds)
  | lst {a : Addr} {xs : List V} {ds : List D} : H a = some (.lst xs) → RpA T H xs ds → Rp T H (.ref a) (.lst ds)
  | dct {a : Addr} {ep : Nat} {es : List (NestedKey × Addr × V)} {ks vs : List D} : H a = some (DnO T a es ep) → ks = ofKs (es.map (·.1)) → (∀ e ∈ es, e.1.depth ≤ 8) → RpA T H (es.map fun e => V.ref e.2.1) ks → RpA T H (es.map (·.2.2)) vs → Rp T H (.ref a) (.dct ks vs)
  | web {a dx c t : Addr} {k : Int} {xs : List V} {ar : List D} : H a = some (.ins T.CW dx (wf k c t)) → H t = some (.tup xs) → RpA T H xs ar → Rp T H (.ref a) (.web k ar)
  | game {a dx t : Addr} {k : Int} {xs : List V} {ws : List D} : H a = some (.ins T.CG dx (gf k t xs.length)) → H t = some (.tup xs) → RpA T H xs ws → Rp T H (.ref a) (.game k ws)
inductive RpA (T : Tx) (H : Hp) : List V → List D → Prop
  | nil : RpA T H [] []
  | cons {v : V} {d : D} {vs : List V} {ds : List D} : Rp T H v d → RpA T H vs ds → RpA T H (v :: vs) (d :: ds)
end
section
variable {T : Tx} {H H' : Hp}
mutual
theorem Rp.mono (e : Same H H') : ∀ {v : V} {d : D}, Rp T H v d → Rp T H' v d
  | _, _, .non => .non
  | _, _, .bl b => .bl b
  | _, _, .int i => .int i
  | _, _, .str x => .str x
  | _, _, .tup h r => .tup (e _ _ h) (RpA.mono e r)
  | _, _, .lst h r => .lst (e _ _ h) (RpA.mono e r)
  | _, _, .dct h hk hd r1 r2 => .dct (e _ _ h) hk hd (RpA.mono e r1) (RpA.mono e r2)
  | _, _, .web h h2 r => .web (e _ _ h) (e _ _ h2) (RpA.mono e r)
  | _, _, .game h h2 r => .game (e _ _ h) (e _ _ h2) (RpA.mono e r)
theorem RpA.mono (e : Same H H') : ∀ {vs : List V} {ds : List D}, RpA T H vs ds → RpA T H' vs ds
  | _, _, .nil => .nil
  | _, _, .cons r t => .cons (Rp.mono e r) (RpA.mono e t)
end
theorem RpA.length : ∀ {vs : List V} {ds : List D}, RpA T H vs ds → vs.length = ds.length
  | _, _, .nil => rfl
  | _, _, .cons _ t => by rw [List.length_cons, List.length_cons, RpA.length t]
theorem RpA.get : ∀ {vs : List V} {ds : List D} {i : Nat} {v : V}, RpA T H vs ds → vs[i]? = some v → ∃ d, ds[i]? = some d ∧ Rp T H v d
  | _, _, _, _, .nil, e => by simp at e
  | _, _, 0, _, .cons r _, e => by simp at e; subst e; exact ⟨_, rfl, r⟩
  | _, _, i + 1, _, .cons _ t, e => by
    obtain ⟨d, h1, h2⟩ := RpA.get (i := i) t (by simpa using e)
    exact ⟨d, by simpa using h1, h2⟩
theorem RpA.getD : ∀ {vs : List V} {ds : List D} {i : Nat} {d : D}, RpA T H vs ds → ds[i]? = some d → ∃ v, vs[i]? = some v ∧ Rp T H v d
  | _, _, _, _, .nil, e => by simp at e
  | _, _, 0, _, .cons r _, e => by simp at e; subst e; exact ⟨_, rfl, r⟩
  | _, _, i + 1, _, .cons _ t, e => by
    obtain ⟨v, h1, h2⟩ := RpA.getD (i := i) t (by simpa using e)
    exact ⟨v, by simpa using h1, h2⟩
theorem RpA.append : ∀ {vs us : List V} {ds es : List D}, RpA T H vs ds → RpA T H us es → RpA T H (vs ++ us) (ds ++ es)
  | _, _, _, _, .nil, s => s
  | _, _, _, _, .cons r t, s => .cons r (RpA.append t s)
theorem RpA.take : ∀ {vs : List V} {ds : List D} (n : Nat), RpA T H vs ds → RpA T H (vs.take n) (ds.take n)
  | _, _, 0, _ => .nil
  | _, _, _ + 1, .nil => .nil
  | _, _, n + 1, .cons r t => .cons r (RpA.take n t)
theorem RpA.drop : ∀ {vs : List V} {ds : List D} (n : Nat), RpA T H vs ds → RpA T H (vs.drop n) (ds.drop n)
  | _, _, 0, r => r
  | _, _, _ + 1, .nil => .nil
  | _, _, n + 1, .cons _ t => RpA.drop n t
theorem RpA.set {v : V} {d : D} (r : Rp T H v d) : ∀ {vs : List V} {ds : List D} (i : Nat), RpA T H vs ds → RpA T H (vs.set i v) (ds.set i d)
  | _, _, _, .nil => .nil
  | _, _, 0, .cons _ t => .cons r t
  | _, _, i + 1, .cons q t => .cons q (RpA.set r i t)
theorem RpA.cut {vs : List V} {ds : List D} (r : RpA T H vs ds) (lo hi : Option Int) : RpA T H (cutV vs lo hi) ((ds.drop (HT.sIx ds.length 0 lo)).take (HT.sIx ds.length ds.length hi - HT.sIx ds.length 0 lo)) := by
  unfold cutV
  rw [r.length]
  exact (r.drop _).take _
/-- ints -/
theorem RpA.ints : ∀ (ns : List Int), RpA T H (ns.map V.int) (ns.map D.int)
  | [] => .nil
  | n :: ns => .cons (.int n) (RpA.ints ns)
theorem RpA.bls : ∀ (ns : List Bool), RpA T H (ns.map V.bl) (ns.map D.bl)
  | [] => .nil
  | n :: ns => .cons (.bl n) (RpA.bls ns)
theorem RpA.ints_inv : ∀ {vs : List V} {ns : List Int}, RpA T H vs (ns.map D.int) → vs = ns.map V.int
  | _, [], .nil => rfl
  | _, n :: ns, .cons r t => by
    cases r
    rw [List.map_cons, RpA.ints_inv t]
theorem RpA.bls_inv : ∀ {vs : List V} {ns : List Bool}, RpA T H vs (ns.map D.bl) → vs = ns.map V.bl
  | _, [], .nil => rfl
  | _, n :: ns, .cons r t => by
    cases r
    rw [List.map_cons, RpA.bls_inv t]
end
/-! ### masks -/
noncomputable section
/-- the heap without the addresses in M -/
def mask (M : List Addr) (H : Hp) : Hp := fun b => if b ∈ M then none else H b
theorem mask_in {M : List Addr} {H : Hp} {b : Addr} (h : b ∈ M) : mask M H b = none := by unfold mask; rw [if_pos h]
theorem mask_out {M : List Addr} {H : Hp} {b : Addr} (h : b ∉ M) : mask M H b = H b := by unfold mask; rw [if_neg h]
theorem mask_some {M : List Addr} {H : Hp} {b : Addr} {o : HO} (h : mask M H b = some o) : b ∉ M ∧ H b = some o := by
  by_cases hb : b ∈ M
  · rw [mask_in hb] at h; cases h
  · rw [mask_out hb] at h; exact ⟨hb, h⟩
theorem mask_le (M : List Addr) (H : Hp) : Same (mask M H) H := fun b o h => (mask_some h).2
theorem mask_sub {M M' : List Addr} {H : Hp} (h : ∀ a ∈ M', a ∈ M) : Same (mask M H) (mask M' H) := fun b o e => by
  obtain ⟨h1, h2⟩ := mask_some e
  rw [mask_out fun q => h1 (h b q)]
  exact h2
theorem Same.mask {M : List Addr} {H H' : Hp} (e : Same H H') : Same (mask M H) (mask M H') := fun b o q => by
  obtain ⟨h1, h2⟩ := mask_some q
  rw [mask_out h1]
  exact e b o h2
theorem Same.new {H : Hp} {p : Addr} {o : HO} (h : H p = none) : Same H (upd H p o) := fun a u e => by
  rw [upd_ne (ne_of_none e h)]
  exact e
/-! ### immutable data -/
mutual
def D.im : D → Bool
  | .non => true
  | .bl _ => true
  | .int _ => true
  | .str _ => true
  | .tup ds => D.imA ds
  | .lst _ => false
  | .dct _ _ => false
  | .web _ _ => false
  | .game _ _ => false
def D.imA : List D → Bool
  | [] => true
  | d :: ds => d.im && D.imA ds
end
mutual
/-- tuples do not lean on lists -/
theorem Rp.im {T : Tx} {H H' : Hp} (e : ∀ a xs, H a = some (.tup xs) → H' a = some (.tup xs)) : ∀ {v : V} {d : D}, Rp T H v d → d.im = true → Rp T H' v d
  | _, _, .non, _ => .non
  | _, _, .bl b, _ => .bl b
  | _, _, .int i, _ => .int i
  | _, _, .str x, _ => .str x
  | _, _, .tup h r, q => .tup (e _ _ h) (RpA.im e r (by simpa [D.im] using q))
  | _, _, .lst _ _, q => by simp [D.im] at q
  | _, _, .dct _ _ _ _ _, q => by simp [D.im] at q
  | _, _, .web _ _ _, q => by simp [D.im] at q
  | _, _, .game _ _ _, q => by simp [D.im] at q
theorem RpA.im {T : Tx} {H H' : Hp} (e : ∀ a xs, H a = some (.tup xs) → H' a = some (.tup xs)) : ∀ {vs : List V} {ds : List D}, RpA T H vs ds → D.imA ds = true → RpA T H' vs ds
  | _, _, .nil, _ => .nil
  | _, _, .cons r t, q => by
    simp only [D.imA, Bool.and_eq_true] at q
    exact .cons (Rp.im e r q.1) (RpA.im e t q.2)
end
/-! ### the draws: a list of a place and a list of ints -/
def DrAt (H : Hp) (a : Addr × Addr) : Prop := ∃ (p : Nat) (ns : List Int), H a.1 = some (.lst [.int p, .ref a.2]) ∧ a.2 ≠ a.1 ∧ H a.2 = some (.lst (ns.map V.int)) ∧ p ≤ ns.length
/-- M: what the facts of this def may not lean on; dr: the draws, if it has them (the list, its list of numbers) -/
structure Cfg where
  M : List Addr
  dr : Option (Addr × Addr)
structure Cfg.Ok (c : Cfg) : Prop where
  drM : ∀ a, c.dr = some a → a.1 ∈ c.M ∧ a.2 ∈ c.M
def Cfg.nd (c : Cfg) (b : Addr) : Prop := ∀ a, c.dr = some a → a.1 ≠ b
/-- a step: all but the draws is kept -/
structure Stp (c : Cfg) (H H' : Hp) : Prop where
  keep : ∀ b o, c.nd b → H b = some o → H' b = some o
  dr : ∀ a, c.dr = some a → DrAt H a → DrAt H' a
theorem Stp.refl (c : Cfg) (H : Hp) : Stp c H H := ⟨fun _ _ _ h => h, fun _ _ h => h⟩
theorem Stp.trans {c : Cfg} {H H1 H2 : Hp} (a : Stp c H H1) (b : Stp c H1 H2) : Stp c H H2 := ⟨fun x o n h => b.keep x o n (a.keep x o n h), fun x e h => b.dr x e (a.dr x e h)⟩
theorem DrAt.same {H H' : Hp} {a : Addr × Addr} (e : Same H H') (h : DrAt H a) : DrAt H' a := by
  obtain ⟨p, ns, h1, h2, h3, h4⟩ := h
  exact ⟨p, ns, e _ _ h1, h2, e _ _ h3, h4⟩
theorem Stp.same {c : Cfg} {H H' : Hp} (e : Same H H') : Stp c H H' := ⟨fun b o _ h => e b o h, fun a _ h => h.same e⟩
theorem Cfg.Ok.out {c : Cfg} (ok : c.Ok) {b : Addr} (h : b ∉ c.M) : c.nd b := fun a e z => h (z ▸ (ok.drM a e).1)
theorem Stp.mask {c : Cfg} (ok : c.Ok) {L : List Addr} {H H' : Hp} (e : Stp c H H') : Same (mask (L ++ c.M) H) (mask (L ++ c.M) H') := fun b o q => by
  obtain ⟨h1, h2⟩ := mask_some q
  rw [mask_out h1]
  exact e.keep b o (ok.out fun z => h1 (List.mem_append_right _ z)) h2
theorem Stp.free {c : Cfg} {H H' : Hp} (e : Stp c H H') {p : Addr} (h : H' p = none) (hd : c.nd p) : H p = none := by
  cases q : H p with
  | none => rfl
  | some o =>
    rw [e.keep p o hd q] at h
    cases h
/-! ### a def's state by plain data -/
/-- a thing that is no tuple -/
def NT (H : Hp) (a : Addr) : Prop := ∃ o, H a = some o ∧ ∀ xs, o ≠ .tup xs
theorem NT.lst {H : Hp} {a : Addr} {xs : List V} (h : H a = some (.lst xs)) : NT H a := ⟨_, h, fun _ e => nomatch e⟩
theorem NT.ne {H : Hp} {a b : Addr} {xs : List V} (h : NT H a) (h2 : H b = some (.tup xs)) : b ≠ a := by
  rintro rfl
  obtain ⟨o, e, n⟩ := h
  rw [h2] at e
  exact n xs (Option.some.inj e).symm
/-- what a dict with nested keys holds -/
structure DnE (T : Tx) (H : Hp) (es : List (NestedKey × Addr × V)) (ks vs : List D) : Prop where
  hk : ks = ofKs (es.map (·.1))
  dp : ∀ e ∈ es, e.1.depth ≤ 8
  rk : RpA T H (es.map fun e => V.ref e.2.1) ks
  rv : RpA T H (es.map (·.2.2)) vs
theorem DnE.mono {T : Tx} {H H' : Hp} (e : Same H H') {es : List (NestedKey × Addr × V)} {ks vs : List D} (h : DnE T H es ks vs) : DnE T H' es ks vs := ⟨h.hk, h.dp, h.rk.mono e, h.rv.mono e⟩
/-- what is known of a slot: a datum; a list | a dict of the def's own that it may change; the draws; a dict of at most one list of its own; the instance that is made; the script -/
inductive Kn where
  | v (d : D) | o (ds : List D) | dr | od (ks vs : List D) | wt (z : Option (Addr × Int × List D)) | slf (a C : Addr) (ns : List Str) (ds : List D) | scr (K : PySem.W.Frag) (ns : List Int)
abbrev En := List (Option Kn)
/-- the addresses that a slot owns -/
def Kn.adr : Kn → V → List Addr
  | .o _, .ref a => [a]
  | .od _ _, .ref a => [a]
  | .wt none, .ref a => [a]
  | .wt (some z), .ref a => [a, z.1]
  | .slf _ _ _ _, .ref a => [a]
  | _, _ => []
def OwnAt (T : Tx) (c : Cfg) (L : List Addr) (H : Hp) : Kn → V → Prop
  | .v d, v => Rp T (mask (L ++ c.M) H) v d
  | .o ds, v => ∃ a xs, v = .ref a ∧ a ∈ L ∧ H a = some (.lst xs) ∧ RpA T (mask (L ++ c.M) H) xs ds
  | .dr, v => ∃ a, c.dr = some a ∧ v = .ref a.1
  | .od ks vs, v => ∃ a es, v = .ref a ∧ a ∈ L ∧ (∃ ep, H a = some (DnO T a es ep)) ∧ DnE T (mask (L ++ c.M) H) es ks vs
  | .wt none, v => ∃ a, v = .ref a ∧ a ∈ L ∧ H a = some (.dK [])
  | .wt (some (b, k, ds)), v => ∃ a xs, v = .ref a ∧ a ∈ L ∧ b ∈ L ∧ b ≠ a ∧ H a = some (.dK [(.inl k, .ref b)]) ∧ H b = some (.lst xs) ∧ RpA T (mask (L ++ c.M) H) xs ds
  | .slf a C ns ds, v => ∃ dx vs, v = .ref a ∧ a ∈ L ∧ H a = some (.ins C dx (ns.zip vs)) ∧ ns.length = ds.length ∧ RpA T (mask (L ++ c.M) H) vs ds
  | .scr K ns, v => ∃ a, v = .ref a ∧ SqL K (mask (L ++ c.M) H) a (ns.map V.int)
theorem SqL.mono {K : PySem.W.Frag} {H H' : Hp} (e : Same H H') {a : Addr} {xs : List V} (h : SqL K H a xs) : SqL K H' a xs := by
  rcases h with (h | ⟨o, h⟩) | h
  · exact .inl (.inl (e _ _ h))
  · exact .inl (.inr ⟨o, e _ _ h⟩)
  · exact .inr h
theorem OwnAt.inL {T : Tx} {c : Cfg} {L : List Addr} {H : Hp} : ∀ {k : Kn} {v : V}, OwnAt T c L H k v → ∀ a ∈ k.adr v, a ∈ L
  | .v _, _, _, _, q => by simp [Kn.adr] at q
  | .dr, _, _, _, q => by simp [Kn.adr] at q
  | .o _, _, ⟨_, _, e, h, _⟩, _, q => by subst e; simp only [Kn.adr, List.mem_singleton] at q; subst q; exact h
  | .od _ _, _, ⟨_, _, e, h, _⟩, _, q => by subst e; simp only [Kn.adr, List.mem_singleton] at q; subst q; exact h
  | .wt none, _, ⟨_, e, h, _⟩, _, q => by subst e; simp only [Kn.adr, List.mem_singleton] at q; subst q; exact h
  | .wt (some (b, k, ds)), _, ⟨_, _, e, h, h2, _⟩, _, q => by
    subst e
    simp only [Kn.adr, List.mem_cons, List.not_mem_nil, or_false] at q
    rcases q with rfl | rfl
    · exact h
    · exact h2
  | .slf _ _ _ _, _, ⟨_, _, e, h, _⟩, _, q => by subst e; simp only [Kn.adr, List.mem_singleton] at q; subst q; exact h
  | .scr _ _, _, _, _, q => by simp [Kn.adr] at q
theorem OwnAt.move {T : Tx} {c : Cfg} {L L' : List Addr} {H H' : Hp} (e : Same (mask (L ++ c.M) H) (mask (L' ++ c.M) H')) : ∀ {k : Kn} {v : V}, OwnAt T c L H k v → (∀ a ∈ k.adr v, a ∈ L' ∧ H' a = H a) → OwnAt T c L' H' k v
  | .v _, _, h, _ => Rp.mono e h
  | .dr, _, h, _ => h
  | .o _, _, ⟨a, xs, e1, h, h2, h3⟩, q => by
    subst e1
    obtain ⟨q1, q2⟩ := q a (by simp [Kn.adr])
    exact ⟨a, xs, rfl, q1, by rw [q2]; exact h2, h3.mono e⟩
  | .od _ _, _, ⟨a, xs, e1, h, h2, h3⟩, q => by
    subst e1
    obtain ⟨q1, q2⟩ := q a (by simp [Kn.adr])
    exact ⟨a, xs, rfl, q1, by rw [q2]; exact h2, h3.mono e⟩
  | .wt none, _, ⟨a, e1, h, h2⟩, q => by
    subst e1
    obtain ⟨q1, q2⟩ := q a (by simp [Kn.adr])
    exact ⟨a, rfl, q1, by rw [q2]; exact h2⟩
  | .wt (some (b, k, ds)), _, ⟨a, xs, e1, h, h2, h3, h4, h5, h6⟩, q => by
    subst e1
    obtain ⟨q1, q2⟩ := q a (by simp [Kn.adr])
    obtain ⟨q3, q4⟩ := q b (by simp [Kn.adr])
    exact ⟨a, xs, rfl, q1, q3, h3, by rw [q2]; exact h4, by rw [q4]; exact h5, h6.mono e⟩
  | .slf a C ns ds, _, ⟨dx, vs, e1, h, h2, h3, h4⟩, q => by
    subst e1
    obtain ⟨q1, q2⟩ := q a (by simp [Kn.adr])
    exact ⟨dx, vs, rfl, q1, q2.trans h2, h3, h4.mono e⟩
  | .scr K ns, _, ⟨a, e1, h⟩, _ => ⟨a, e1, SqL.mono e h⟩
structure SOk (T : Tx) (c : Cfg) (L : List Addr) (H : Hp) (σ : L2.St) (ρ : En) : Prop where
  ok : c.Ok
  len : σ.length = ρ.length
  all : ∀ (i : Nat) (k : Kn), ρ[i]? = some (some k) → ∃ v, σ[i]? = some (some v) ∧ OwnAt T c L H k v
  inj : ∀ (i j : Nat) (k k' : Kn) (v v' : V) (a : Addr), ρ[i]? = some (some k) → ρ[j]? = some (some k') → σ[i]? = some (some v) → σ[j]? = some (some v') → a ∈ k.adr v → a ∈ k'.adr v' → i = j
  lst : ∀ a ∈ L ++ c.M, NT H a
  LM : ∀ a ∈ L, a ∉ c.M
  dok : ∀ a, c.dr = some a → DrAt H a
section
variable {T : Tx} {c : Cfg} {L : List Addr} {H H' : Hp} {σ : L2.St} {ρ : En}
theorem SOk.val (s : SOk T c L H σ ρ) (i : Nat) (d : D) (h : ρ[i]? = some (some (.v d))) : ∃ v, σ[i]? = some (some v) ∧ Rp T (mask (L ++ c.M) H) v d := s.all i _ h
theorem SOk.own (s : SOk T c L H σ ρ) (i : Nat) (ds : List D) (h : ρ[i]? = some (some (.o ds))) : ∃ a xs, σ[i]? = some (some (.ref a)) ∧ a ∈ L ∧ H a = some (.lst xs) ∧ RpA T (mask (L ++ c.M) H) xs ds := by
  obtain ⟨v, h1, a, xs, rfl, h2⟩ := s.all i _ h
  exact ⟨a, xs, h1, h2⟩
theorem SOk.ownd (s : SOk T c L H σ ρ) (i : Nat) (ks vs : List D) (h : ρ[i]? = some (some (.od ks vs))) : ∃ a es, σ[i]? = some (some (.ref a)) ∧ a ∈ L ∧ (∃ ep, H a = some (DnO T a es ep)) ∧ DnE T (mask (L ++ c.M) H) es ks vs := by
  obtain ⟨v, h1, a, xs, rfl, h2⟩ := s.all i _ h
  exact ⟨a, xs, h1, h2⟩
theorem SOk.drw (s : SOk T c L H σ ρ) (i : Nat) (h : ρ[i]? = some (some .dr)) : ∃ a, c.dr = some a ∧ σ[i]? = some (some (.ref a.1)) := by
  obtain ⟨v, h1, a, h2, rfl⟩ := s.all i _ h
  exact ⟨a, h2, h1⟩
theorem SOk.nodr (s : SOk T c L H σ ρ) {a : Addr} (h : a ∈ L) : c.nd a := s.ok.out (s.LM a h)
theorem SOk.keepL (s : SOk T c L H σ ρ) (e : Stp c H H') {a : Addr} (h : a ∈ L) : H' a = H a := by
  obtain ⟨o, h1, _⟩ := s.lst a (List.mem_append_left _ h)
  rw [h1]
  exact e.keep a o (s.nodr h) h1
theorem SOk.nt (s : SOk T c L H σ ρ) (e : Stp c H H') {b : Addr} (h : b ∈ L ++ c.M) : NT H' b := by
  by_cases q : c.nd b
  · obtain ⟨xs, h1, h2⟩ := s.lst b h
    exact ⟨xs, e.keep b _ q h1, h2⟩
  · have q2 : ∃ a, c.dr = some a ∧ a.1 = b := Classical.byContradiction fun z => q fun a e1 e2 => z ⟨a, e1, e2⟩
    obtain ⟨a, e1, rfl⟩ := q2
    obtain ⟨p, ns, h1, _⟩ := e.dr a e1 (s.dok a e1)
    exact .lst h1
theorem SOk.step (s : SOk T c L H σ ρ) (e : Stp c H H') : SOk T c L H' σ ρ := by
  refine ⟨s.ok, s.len, fun i k h => ?_, s.inj, fun b h => s.nt e h, s.LM, fun a h => e.dr a h (s.dok a h)⟩
  obtain ⟨v, h1, h2⟩ := s.all i k h
  exact ⟨v, h1, h2.move (e.mask s.ok) fun a ha => ⟨h2.inL a ha, s.keepL e (h2.inL a ha)⟩⟩
theorem SOk.fresh (s : SOk T c L H σ ρ) {p : Addr} (h : H p = none) : p ∉ L ++ c.M := fun q => by
  obtain ⟨xs, e, _⟩ := s.lst p q
  rw [h] at e
  cases e
theorem SOk.nodr' (s : SOk T c L H σ ρ) {p : Addr} (h : H p = none) : c.nd p := s.ok.out fun q => s.fresh h (List.mem_append_right _ q)
/-- a new object is laid -/
theorem SOk.lay (s : SOk T c L H σ ρ) {p : Addr} {o : HO} (h : H p = none) : Stp c H (upd H p o) ∧ mask (L ++ c.M) (upd H p o) p = some o :=
  ⟨.same (Same.new h), by rw [mask_out (s.fresh h)]; exact upd_same⟩
end
end
end DL
/-! DL1: what expressions ask, by plain data -/
namespace DL
open PySem L2 PyProof.Rows
noncomputable section
noncomputable instance : DecidableEq D := fun _ _ => Classical.propDecidable _
/-! ### data of ints in tuples and lists: equality is plain equality -/
mutual
def D.py : D → PyData
  | .non => .none
  | .bl b => .bool b
  | .int i => .int i
  | .str x => .str x
  | .tup ds => .tuple (D.pyA ds)
  | .lst ds => .list (D.pyA ds)
  | .dct _ _ => .none
  | .web _ _ => .none
  | .game _ _ => .none
def D.pyA : List D → List PyData
  | [] => []
  | d :: ds => d.py :: D.pyA ds
end
mutual
def D.fit : D → Nat → Bool
  | .non, _ => false
  | .bl _, _ => false
  | .int _, _ => true
  | .str _, _ => false
  | .tup ds, n => decide (0 < n) && D.fitA ds (n - 1)
  | .lst ds, n => decide (0 < n) && D.fitA ds (n - 1)
  | .dct _ _, _ => false
  | .web _ _, _ => false
  | .game _ _, _ => false
def D.fitA : List D → Nat → Bool
  | [], _ => true
  | d :: ds, n => d.fit n && D.fitA ds n
end
section
variable {T : Tx} {H : Hp} {K : PySem.W.Frag}
mutual
theorem Rp.dp : ∀ {v : V} {d : D} {n : Nat}, Rp T H v d → d.fit n = true → Dp K H v d.py
  | _, _, _, .non, q => by simp [D.fit] at q
  | _, _, _, .bl b, q => by simp [D.fit] at q
  | _, _, _, .int i, q => by simp only [D.py]; exact .int i
  | _, _, _, .str x, q => by simp [D.fit] at q
  | _, _, _, .tup h r, q => by
    simp only [D.fit, Bool.and_eq_true] at q
    simp only [D.py]
    exact .tup (SqT.of h) (RpA.dp r q.2)
  | _, _, _, .lst h r, q => by
    simp only [D.fit, Bool.and_eq_true] at q
    simp only [D.py]
    exact .lst (SqL.of h) (RpA.dp r q.2)
  | _, _, _, .dct _ _ _ _ _, q => by simp [D.fit] at q
  | _, _, _, .web _ _ _, q => by simp [D.fit] at q
  | _, _, _, .game _ _ _, q => by simp [D.fit] at q
theorem RpA.dp : ∀ {vs : List V} {ds : List D} {n : Nat}, RpA T H vs ds → D.fitA ds n = true → DpAll K H vs (D.pyA ds)
  | _, _, _, .nil, q => by simp only [D.pyA]; exact .nil
  | _, _, _, .cons r t, q => by
    simp only [D.fitA, Bool.and_eq_true] at q
    simp only [D.pyA]
    exact .cons (Rp.dp r q.1) (RpA.dp t q.2)
end
end
mutual
theorem fit_lay : ∀ (d : D) (n : Nat), d.fit n = true → PyData.canLay0 d.py = true ∧ PyData.depth d.py ≤ n
  | .non, _, q => by simp [D.fit] at q
  | .bl _, _, q => by simp [D.fit] at q
  | .int i, _, q => by simp [D.py, PyData.canLay0, PyData.depth]
  | .str _, _, q => by simp [D.fit] at q
  | .tup ds, n, q => by
    simp only [D.fit, Bool.and_eq_true, decide_eq_true_eq] at q
    have h := fitA_lay ds (n - 1) q.2
    simp only [D.py, PyData.canLay0, PyData.depth]
    exact ⟨h.1, by omega⟩
  | .lst ds, n, q => by
    simp only [D.fit, Bool.and_eq_true, decide_eq_true_eq] at q
    have h := fitA_lay ds (n - 1) q.2
    simp only [D.py, PyData.canLay0, PyData.depth]
    exact ⟨h.1, by omega⟩
  | .dct _ _, _, q => by simp [D.fit] at q
  | .web _ _, _, q => by simp [D.fit] at q
  | .game _ _, _, q => by simp [D.fit] at q
theorem fitA_lay : ∀ (ds : List D) (n : Nat), D.fitA ds n = true → PyData.canLayAll0 (D.pyA ds) = true ∧ PyData.depthAll (D.pyA ds) ≤ n
  | [], _, _ => by simp [D.pyA, PyData.canLayAll0, PyData.depthAll]
  | d :: ds, n, q => by
    simp only [D.fitA, Bool.and_eq_true] at q
    have h1 := fit_lay d n q.1
    have h2 := fitA_lay ds n q.2
    simp only [D.pyA, PyData.canLayAll0, PyData.depthAll, Bool.and_eq_true]
    exact ⟨⟨h1.1, h2.1⟩, by omega⟩
end
theorem fit_shaped {d : D} {n : Nat} (h : d.fit n = true) (hn : n ≤ 64) : SeqAt.shaped d.py = true := by
  obtain ⟨h1, h2⟩ := fit_lay d n h
  unfold SeqAt.shaped
  rw [Bool.and_eq_true]
  exact ⟨h1, decide_eq_true (by omega)⟩
theorem fitA_shaped {ds : List D} {n : Nat} (h : D.fitA ds n = true) (hn : n < 64) : SeqAt.shaped (.list (D.pyA ds)) = true := by
  obtain ⟨h1, h2⟩ := fitA_lay ds n h
  unfold SeqAt.shaped
  rw [Bool.and_eq_true]
  exact ⟨by simp only [PyData.canLay0]; exact h1, decide_eq_true (by simp only [PyData.depth]; omega)⟩
mutual
theorem fit_eqv : ∀ (d e : D) (n m : Nat), d.fit n = true → e.fit m = true → PyData.eqv d.py e.py = decide (d = e)
  | .int i, .int j, _, _, _, _ => by
    simp only [D.py, PyData.eqv, D.int.injEq]
    exact Bool.beq_eq_decide_eq i j
  | .int i, .tup es, _, _, _, _ => by simp [D.py, PyData.eqv]
  | .int i, .lst es, _, _, _, _ => by simp [D.py, PyData.eqv]
  | .tup ds, .int j, _, _, _, _ => by simp [D.py, PyData.eqv]
  | .tup ds, .lst es, _, _, _, _ => by simp [D.py, PyData.eqv]
  | .lst ds, .int j, _, _, _, _ => by simp [D.py, PyData.eqv]
  | .lst ds, .tup es, _, _, _, _ => by simp [D.py, PyData.eqv]
  | .tup ds, .tup es, n, m, q, q' => by
    simp only [D.fit, Bool.and_eq_true] at q q'
    simp only [D.py, PyData.eqv]
    rw [fitA_eqv ds es (n - 1) (m - 1) q.2 q'.2]
    by_cases h : ds = es <;> simp [h]
  | .lst ds, .lst es, n, m, q, q' => by
    simp only [D.fit, Bool.and_eq_true] at q q'
    simp only [D.py, PyData.eqv]
    rw [fitA_eqv ds es (n - 1) (m - 1) q.2 q'.2]
    by_cases h : ds = es <;> simp [h]
  | .non, _, _, _, q, _ => by simp [D.fit] at q
  | .bl _, _, _, _, q, _ => by simp [D.fit] at q
  | .str _, _, _, _, q, _ => by simp [D.fit] at q
  | .dct _ _, _, _, _, q, _ => by simp [D.fit] at q
  | .web _ _, _, _, _, q, _ => by simp [D.fit] at q
  | .game _ _, _, _, _, q, _ => by simp [D.fit] at q
  | _, .non, _, _, _, q => by simp [D.fit] at q
  | _, .bl _, _, _, _, q => by simp [D.fit] at q
  | _, .str _, _, _, _, q => by simp [D.fit] at q
  | _, .dct _ _, _, _, _, q => by simp [D.fit] at q
  | _, .web _ _, _, _, _, q => by simp [D.fit] at q
  | _, .game _ _, _, _, _, q => by simp [D.fit] at q
theorem fitA_eqv : ∀ (ds es : List D) (n m : Nat), D.fitA ds n = true → D.fitA es m = true → PyData.eqvAll (D.pyA ds) (D.pyA es) = decide (ds = es)
  | [], [], _, _, _, _ => by simp [D.pyA, PyData.eqvAll]
  | [], e :: es, _, _, _, _ => by simp [D.pyA, PyData.eqvAll]
  | d :: ds, [], _, _, _, _ => by simp [D.pyA, PyData.eqvAll]
  | d :: ds, e :: es, n, m, q, q' => by
    simp only [D.fitA, Bool.and_eq_true] at q q'
    simp only [D.pyA, PyData.eqvAll]
    rw [fit_eqv d e n m q.1 q'.1, fitA_eqv ds es n m q.2 q'.2]
    by_cases h : d = e <;> by_cases h2 : ds = es <;> simp [h, h2]
end
theorem fitA_any {d : D} {n : Nat} (hd : d.fit n = true) : ∀ (ds : List D) (m : Nat), D.fitA ds m = true → ((D.pyA ds).any fun z => PyData.eqv z d.py) = decide (d ∈ ds)
  | [], _, _ => by simp [D.pyA]
  | e :: es, m, q => by
    simp only [D.fitA, Bool.and_eq_true] at q
    simp only [D.pyA, List.any_cons]
    rw [fit_eqv e d m n q.1 hd, fitA_any hd es m q.2]
    by_cases h : e = d
    · subst h; simp
    · have h' : ¬ d = e := fun z => h z.symm
      by_cases h2 : d ∈ es <;> simp [h, h', h2]
@[simp] theorem fit_int (i : Int) (n : Nat) : (D.int i).fit n = true := by simp [D.fit]
@[simp] theorem fit_tup (ds : List D) (n : Nat) : (D.tup ds).fit (n + 1) = D.fitA ds n := by simp [D.fit]
@[simp] theorem fit_lst (ds : List D) (n : Nat) : (D.lst ds).fit (n + 1) = D.fitA ds n := by simp [D.fit]
@[simp] theorem fitA_nil (n : Nat) : D.fitA [] n = true := by simp [D.fitA]
@[simp] theorem fitA_cons (d : D) (ds : List D) (n : Nat) : D.fitA (d :: ds) n = (d.fit n && D.fitA ds n) := by simp [D.fitA]
@[simp] theorem fitA_append (n : Nat) : ∀ ds es : List D, D.fitA (ds ++ es) n = (D.fitA ds n && D.fitA es n)
  | [], es => by simp
  | d :: ds, es => by simp [fitA_append n ds es, Bool.and_assoc]
theorem fitA_map {α : Type} {f : α → D} {n : Nat} (h : ∀ a, (f a).fit n = true) : ∀ xs : List α, D.fitA (xs.map f) n = true
  | [] => by simp
  | x :: xs => by simp [h x, fitA_map h xs]
theorem fitA_of {n : Nat} : ∀ {ds : List D}, (∀ d ∈ ds, d.fit n = true) → D.fitA ds n = true
  | [], _ => by simp
  | d :: ds, h => by
    rw [fitA_cons, h d List.mem_cons_self, fitA_of (ds := ds) fun e he => h e (List.mem_cons_of_mem _ he)]
    rfl
@[simp] theorem fitA_ints (ns : List Int) (n : Nat) : D.fitA (ns.map D.int) n = true := fitA_map (fun i => fit_int i n) ns
@[simp] theorem imA_nil : D.imA [] = true := by simp [D.imA]
@[simp] theorem imA_cons (d : D) (ds : List D) : D.imA (d :: ds) = (d.im && D.imA ds) := by simp [D.imA]
@[simp] theorem im_int (i : Int) : (D.int i).im = true := by simp [D.im]
@[simp] theorem im_bl (i : Bool) : (D.bl i).im = true := by simp [D.im]
@[simp] theorem im_str (i : Str) : (D.str i).im = true := by simp [D.im]
@[simp] theorem im_non : D.non.im = true := by simp [D.im]
@[simp] theorem im_tup (ds : List D) : (D.tup ds).im = D.imA ds := by simp [D.im]
theorem imA_map {α : Type} {f : α → D} (h : ∀ a, (f a).im = true) : ∀ xs : List α, D.imA (xs.map f) = true
  | [] => by simp
  | x :: xs => by simp [h x, imA_map h xs]
theorem imA_of : ∀ {ds : List D}, (∀ d ∈ ds, d.im = true) → D.imA ds = true
  | [], _ => by simp
  | d :: ds, h => by
    rw [imA_cons, h d List.mem_cons_self, imA_of (ds := ds) fun e he => h e (List.mem_cons_of_mem _ he)]
    rfl
@[simp] theorem imA_ints (ns : List Int) : D.imA (ns.map D.int) = true := imA_map (fun i => im_int i) ns
/-! ### the classes of readings -/
abbrev PE1 := En → (D → Prop) → Prop
abbrev PB1 := En → (Bool → Prop) → Prop
abbrev PA1 := En → (List D → Prop) → Prop
abbrev PO1 := En → (Option Int → Prop) → Prop
class SE (T : Tx) (te : TE) (p : outParam PE1) : Prop where
  run : ∀ {c : Cfg} {L : List Addr} {H : Hp} {σ : L2.St} {ρ : En} {P : D → Prop} {Q : VK}, SOk T c L H σ ρ → p ρ P →
    (∀ v d H', Stp c H H' → Rp T (mask (L ++ c.M) H') v d → P d → Q v H') → te σ H Q
/-- a new list -/
class SF (T : Tx) (te : TE) (p : outParam PA1) : Prop where
  run : ∀ {c : Cfg} {L : List Addr} {H : Hp} {σ : L2.St} {ρ : En} {P : List D → Prop} {Q : VK}, SOk T c L H σ ρ → p ρ P →
    (∀ a xs ds H', Stp c H H' → H a = none → H' a = some (.lst xs) → RpA T (mask (a :: (L ++ c.M)) H') xs ds → P ds → Q (.ref a) H') → te σ H Q
class STt (T : Tx) (te : TT) (p : outParam PB1) : Prop where
  run : ∀ {c : Cfg} {L : List Addr} {H : Hp} {σ : L2.St} {ρ : En} {P : Bool → Prop} {Q : Bool → Hp → Prop}, SOk T c L H σ ρ → p ρ P →
    (∀ b H', Stp c H H' → P b → Q b H') → te σ H Q
class SA (T : Tx) (te : TA) (p : outParam PA1) : Prop where
  run : ∀ {c : Cfg} {L : List Addr} {H : Hp} {σ : L2.St} {ρ : En} {P : List D → Prop} {Q : List V → Hp → Prop}, SOk T c L H σ ρ → p ρ P →
    (∀ vs ds H', Stp c H H' → RpA T (mask (L ++ c.M) H') vs ds → P ds → Q vs H') → te σ H Q
class SO (T : Tx) (te : TO) (p : outParam PO1) : Prop where
  run : ∀ {c : Cfg} {L : List Addr} {H : Hp} {σ : L2.St} {ρ : En} {P : Option Int → Prop} {Q : Option Int → Hp → Prop}, SOk T c L H σ ρ → p ρ P →
    (∀ o H', Stp c H H' → P o → Q o H') → te σ H Q
/-- an operation on two values -/
class SR (T : Tx) (r : R2) (q : outParam (D → D → (D → Prop) → Prop)) : Prop where
  run : ∀ {c : Cfg} {L : List Addr} {H : Hp} {σ : L2.St} {ρ : En} {x y : V} {d e : D} {P : D → Prop} {Q : VK}, SOk T c L H σ ρ → Rp T (mask (L ++ c.M) H) x d → Rp T (mask (L ++ c.M) H) y e → q d e P →
    (∀ v d' H', Stp c H H' → Rp T (mask (L ++ c.M) H') v d' → P d' → Q v H') → r x y H Q
class SRF (T : Tx) (r : R2) (q : outParam (D → D → (List D → Prop) → Prop)) : Prop where
  run : ∀ {c : Cfg} {L : List Addr} {H : Hp} {σ : L2.St} {ρ : En} {x y : V} {d e : D} {P : List D → Prop} {Q : VK}, SOk T c L H σ ρ → Rp T (mask (L ++ c.M) H) x d → Rp T (mask (L ++ c.M) H) y e → q d e P →
    (∀ a xs ds H', Stp c H H' → H a = none → H' a = some (.lst xs) → RpA T (mask (a :: (L ++ c.M)) H') xs ds → P ds → Q (.ref a) H') → r x y H Q
/-- a call by values -/
class SC (T : Tx) (r : List V → Hp → VK → Prop) (q : outParam (List D → (D → Prop) → Prop)) : Prop where
  run : ∀ {c : Cfg} {L : List Addr} {H : Hp} {σ : L2.St} {ρ : En} {xs : List V} {ds : List D} {P : D → Prop} {Q : VK}, SOk T c L H σ ρ → RpA T (mask (L ++ c.M) H) xs ds → q ds P →
    (∀ v d' H', Stp c H H' → Rp T (mask (L ++ c.M) H') v d' → P d' → Q v H') → r xs H Q
class SCF (T : Tx) (r : List V → Hp → VK → Prop) (q : outParam (List D → (List D → Prop) → Prop)) : Prop where
  run : ∀ {c : Cfg} {L : List Addr} {H : Hp} {σ : L2.St} {ρ : En} {xs : List V} {ds : List D} {P : List D → Prop} {Q : VK}, SOk T c L H σ ρ → RpA T (mask (L ++ c.M) H) xs ds → q ds P →
    (∀ a xs ds H', Stp c H H' → H a = none → H' a = some (.lst xs) → RpA T (mask (a :: (L ++ c.M)) H') xs ds → P ds → Q (.ref a) H') → r xs H Q
section
variable {T : Tx} {K : PySem.W.Frag} {ta tb te tf : TE} {pa pb pe pf : PE1} {r : R2} {t u : TT} {pt pu : PB1}
/-! ### names, constants -/
@[reducible, simp] def pVar (i : Nat) : PE1 := fun ρ P => ∃ d, ρ[i]? = some (some (.v d)) ∧ P d
instance {i : Nat} : SE T (tVar i) (pVar i) where
  run := fun s h k => by
    obtain ⟨d, e, h⟩ := h
    obtain ⟨v, e1, r⟩ := s.val i d e
    exact ⟨v, e1, k v d _ (Stp.refl _ _) r h⟩
@[reducible, simp] def pC (d : D) : PE1 := fun _ P => P d
instance {i : Int} : SE T (tC (.int i)) (pC (.int i)) where
  run := fun s h k => k _ _ _ (Stp.refl _ _) (.int i) h
instance {i : Bool} : SE T (tC (.bl i)) (pC (.bl i)) where
  run := fun s h k => k _ _ _ (Stp.refl _ _) (.bl i) h
instance {i : Str} : SE T (tC (.str i)) (pC (.str i)) where
  run := fun s h k => k _ _ _ (Stp.refl _ _) (.str i) h
instance : SE T (tC .non) (pC .non) where
  run := fun s h k => k _ _ _ (Stp.refl _ _) .non h
/-! ### two places -/
@[reducible, simp] def pOp (q : D → D → (D → Prop) → Prop) (pa pb : PE1) : PE1 := fun ρ P => pa ρ fun d => pb ρ fun e => q d e P
instance {q : D → D → (D → Prop) → Prop} [hr : SR T r q] [ha : SE T ta pa] [hb : SE T tb pb] : SE T (tOp r ta tb) (pOp q pa pb) where
  run := fun s h k => ha.run s h fun x d H1 s1 r1 h1 => hb.run (s.step s1) h1 fun y e H2 s2 r2 h2 =>
    hr.run ((s.step s1).step s2) (r1.mono (s2.mask s.ok)) r2 h2 fun v d' H3 s3 r3 h3 => k v d' H3 ((s1.trans s2).trans s3) r3 h3
@[reducible, simp] def pOpF (q : D → D → (List D → Prop) → Prop) (pa pb : PE1) : PA1 := fun ρ P => pa ρ fun d => pb ρ fun e => q d e P
theorem fresh_back {c : Cfg} {H H' : Hp} {a : Addr} {L : List Addr} {σ : L2.St} {ρ : En} (s : SOk T c L H' σ ρ) (e : Stp c H H') (h : H' a = none) : H a = none := e.free h (s.nodr' h)
instance {q : D → D → (List D → Prop) → Prop} [hr : SRF T r q] [ha : SE T ta pa] [hb : SE T tb pb] : SF T (tOp r ta tb) (pOpF q pa pb) where
  run := fun s h k => ha.run s h fun x d H1 s1 r1 h1 => hb.run (s.step s1) h1 fun y e H2 s2 r2 h2 =>
    hr.run ((s.step s1).step s2) (r1.mono (s2.mask s.ok)) r2 h2 fun a xs ds H3 s3 n3 e3 r3 h3 => k a xs ds H3 ((s1.trans s2).trans s3) (fresh_back ((s.step s1).step s2) (s1.trans s2) n3) e3 r3 h3
/-- a new list as a value -/
@[reducible, simp] def pNew (p : PA1) : PE1 := fun ρ P => p ρ fun ds => P (.lst ds)
instance (priority := low) {p : PA1} [hf : SF T te p] : SE T te (pNew p) where
  run := fun s h k => hf.run s h fun a xs ds H' s1 n1 e1 r1 h1 => k _ _ H' s1 (.lst (by rw [mask_out (s.fresh n1)]; exact e1) (r1.mono (mask_sub fun b hb => List.mem_cons_of_mem _ hb))) h1
/-! ints -/
@[reducible, simp] def qI (f : Int → Int → D) : D → D → (D → Prop) → Prop := fun d e P => ∃ i j, d = .int i ∧ e = .int j ∧ P (f i j)
@[reducible, simp] def qIC (C : Int → Int → Prop) (f : Int → Int → D) : D → D → (D → Prop) → Prop := fun d e P => ∃ i j, d = .int i ∧ e = .int j ∧ C i j ∧ P (f i j)
def rAddI : R2 := rI0 fun i j => .int (i + j)
def rSubI : R2 := rI0 fun i j => .int (i - j)
def rMulI : R2 := rI CMul fun i j => .int (i * j)
def rModI : R2 := rI (fun _ j => 0 < j) fun i j => .int (i % j)
def rDivI : R2 := rI CDiv fun i j => .int (i / j)
def rPowI : R2 := rI CPow fun i j => .int (i ^ j.toNat)
def rLtI : R2 := rI0 fun i j => .bl (decide (i < j))
def rLeI : R2 := rI0 fun i j => .bl (decide (i ≤ j))
def rGtI : R2 := rI0 fun i j => .bl (decide (j < i))
def rGeI : R2 := rI0 fun i j => .bl (decide (j ≤ i))
theorem o_add {X : Cx} : OpR X (binaryOp .Add) rAddI := op_add
theorem o_sub {X : Cx} : OpR X (binaryOp .Sub) rSubI := op_sub
theorem o_mul {X : Cx} : OpR X (binaryOp .Mult) rMulI := op_mul
theorem o_mod {X : Cx} : OpR X (binaryOp .Mod) rModI := op_mod
theorem o_div {X : Cx} : OpR X (binaryOp .FloorDiv) rDivI := op_fdiv
theorem o_pow {X : Cx} : OpR X (binaryOp .Pow) rPowI := op_pow
theorem o_lt {X : Cx} : OpR X (compareOp .Lt) rLtI := op_lt
theorem o_le {X : Cx} : OpR X (compareOp .LtE) rLeI := op_le
theorem o_gt {X : Cx} : OpR X (compareOp .Gt) rGtI := op_gt
theorem o_ge {X : Cx} : OpR X (compareOp .GtE) rGeI := op_ge
theorem sI0 {g : Int → Int → V} {f : Int → Int → D} (h : ∀ (H : Hp) i j, Rp T H (g i j) (f i j)) : SR T (rI0 g) (qI f) where
  run := fun s rx ry h' k => by
    obtain ⟨i, j, rfl, rfl, q⟩ := h'
    cases rx
    cases ry
    exact ⟨i, j, rfl, rfl, k _ _ _ (Stp.refl _ _) (h _ i j) q⟩
theorem sIC {C : Int → Int → Prop} {g : Int → Int → V} {f : Int → Int → D} (h : ∀ (H : Hp) i j, Rp T H (g i j) (f i j)) : SR T (rI C g) (qIC C f) where
  run := fun s rx ry h' k => by
    obtain ⟨i, j, rfl, rfl, hc, q⟩ := h'
    cases rx
    cases ry
    exact ⟨i, j, rfl, rfl, hc, k _ _ _ (Stp.refl _ _) (h _ i j) q⟩
instance : SR T rAddI (qI fun i j => .int (i + j)) := sI0 fun _ _ _ => .int _
instance : SR T rSubI (qI fun i j => .int (i - j)) := sI0 fun _ _ _ => .int _
instance : SR T rMulI (qIC CMul fun i j => .int (i * j)) := sIC fun _ _ _ => .int _
instance : SR T rModI (qIC (fun _ j => 0 < j) fun i j => .int (i % j)) := sIC fun _ _ _ => .int _
instance : SR T rDivI (qIC CDiv fun i j => .int (i / j)) := sIC fun _ _ _ => .int _
instance : SR T rPowI (qIC CPow fun i j => .int (i ^ j.toNat)) := sIC fun _ _ _ => .int _
instance : SR T rLtI (qI fun i j => .bl (decide (i < j))) := sI0 fun _ _ _ => .bl _
instance : SR T rLeI (qI fun i j => .bl (decide (i ≤ j))) := sI0 fun _ _ _ => .bl _
instance : SR T rGtI (qI fun i j => .bl (decide (j < i))) := sI0 fun _ _ _ => .bl _
instance : SR T rGeI (qI fun i j => .bl (decide (j ≤ i))) := sI0 fun _ _ _ => .bl _
/-- - n -/
def rNegI : V → Hp → VK → Prop := rU fun i => .int (-i)
theorem u_neg {X : Cx} : UnR X (unaryOp .USub) rNegI := un_neg
@[reducible, simp] def pNeg (pa : PE1) : PE1 := fun ρ P => pa ρ fun d => ∃ i, d = .int i ∧ P (.int (-i))
instance [ha : SE T ta pa] : SE T (tUn rNegI ta) (pNeg pa) where
  run := fun s h k => ha.run s h fun x d H1 s1 r1 h1 => by
    obtain ⟨i, rfl, q⟩ := h1
    cases r1
    exact ⟨i, rfl, k _ _ _ s1 (.int _) q⟩
/-! equality, in -/
theorem Rp.full {M : List Addr} {H : Hp} {v : V} {d : D} (r : Rp T (mask M H) v d) : Rp T H v d := r.mono (mask_le M H)
def rEqA (K : PySem.W.Frag) : R2 := fun x y H Q => rEq x y H Q ∨ rEqD K x y H Q
def rNeA (K : PySem.W.Frag) : R2 := fun x y H Q => rNe x y H Q ∨ rNeD K x y H Q
theorem o_eq {X : Cx} (hu : X.A.units + 64 < cLine) : OpR X (compareOp .Eq) (rEqA X.K) := op_eq.or (op_eqD hu)
theorem o_ne {X : Cx} (hu : X.A.units + 64 < cLine) : OpR X (compareOp .NotEq) (rNeA X.K) := op_ne.or (op_neD hu)
def eqOk (d e : D) : Prop := (∃ i j, d = .int i ∧ e = .int j) ∨ (∃ i j, d = .str i ∧ e = .str j) ∨ (∃ i j, d = .bl i ∧ e = .bl j) ∨ (d.fit 60 = true ∧ e.fit 60 = true)
@[simp] theorem eqOk_int (i j : Int) : eqOk (.int i) (.int j) := .inl ⟨i, j, rfl, rfl⟩
@[simp] theorem eqOk_str (i j : Str) : eqOk (.str i) (.str j) := .inr (.inl ⟨i, j, rfl, rfl⟩)
@[simp] theorem eqOk_bl (i j : Bool) : eqOk (.bl i) (.bl j) := .inr (.inr (.inl ⟨i, j, rfl, rfl⟩))
@[reducible, simp] def qEq : D → D → (D → Prop) → Prop := fun d e P => eqOk d e ∧ P (.bl (decide (d = e)))
@[reducible, simp] def qNe : D → D → (D → Prop) → Prop := fun d e P => eqOk d e ∧ P (.bl (!decide (d = e)))
instance : SR T (rEqA K) qEq where
  run := fun s rx ry h' k => by
    obtain ⟨h, q⟩ := h'
    have fin : ∀ {Q : VK} {H : Hp} {b b' : Bool}, Q (.bl b) H → b = b' → Q (.bl b') H := fun q e => e ▸ q
    rcases h with ⟨i, j, rfl, rfl⟩ | ⟨i, j, rfl, rfl⟩ | ⟨i, j, rfl, rfl⟩ | ⟨h1, h2⟩
    · cases rx; cases ry
      exact .inl ⟨rfl, fin (k _ _ _ (Stp.refl _ _) (.bl _) q) (by simp)⟩
    · cases rx; cases ry
      exact .inl ⟨rfl, fin (k _ _ _ (Stp.refl _ _) (.bl _) q) (by simp)⟩
    · cases rx; cases ry
      exact .inl ⟨rfl, fin (k _ _ _ (Stp.refl _ _) (.bl _) q) (by simp)⟩
    · exact .inr ⟨_, _, rx.full.dp h1, ry.full.dp h2, fit_shaped h1 (by omega), fit_shaped h2 (by omega), fin (k _ _ _ (Stp.refl _ _) (.bl _) q) (fit_eqv _ _ _ _ h1 h2).symm⟩
instance : SR T (rNeA K) qNe where
  run := fun s rx ry h' k => by
    obtain ⟨h, q⟩ := h'
    have fin : ∀ {Q : VK} {H : Hp} {b b' : Bool}, Q (.bl b) H → b = b' → Q (.bl b') H := fun q e => e ▸ q
    rcases h with ⟨i, j, rfl, rfl⟩ | ⟨i, j, rfl, rfl⟩ | ⟨i, j, rfl, rfl⟩ | ⟨h1, h2⟩
    · cases rx; cases ry
      exact .inl ⟨rfl, fin (k _ _ _ (Stp.refl _ _) (.bl _) q) (by simp)⟩
    · cases rx; cases ry
      exact .inl ⟨rfl, fin (k _ _ _ (Stp.refl _ _) (.bl _) q) (by simp)⟩
    · cases rx; cases ry
      exact .inl ⟨rfl, fin (k _ _ _ (Stp.refl _ _) (.bl _) q) (by simp)⟩
    · exact .inr ⟨_, _, rx.full.dp h1, ry.full.dp h2, fit_shaped h1 (by omega), fit_shaped h2 (by omega), fin (k _ _ _ (Stp.refl _ _) (.bl _) q) (by rw [fit_eqv _ _ _ _ h1 h2])⟩
/-- x in xs, x not in xs: a list or a tuple of data -/
def rInA (K : PySem.W.Frag) (neg : Bool) : R2 := fun x y H Q => ∃ d ds, Dp K H x d ∧ (Dp K H y (.list ds) ∨ Dp K H y (.tuple ds)) ∧ SeqAt.shaped d = true ∧ SeqAt.shaped (.list ds) = true ∧ Q (.bl (if neg then !(ds.any fun z => PyData.eqv z d) else (ds.any fun z => PyData.eqv z d))) H
theorem o_in {X : Cx} (hu : X.A.units + 65 < cLine) : OpR X (compareOp .In) (rInA X.K false) := by
  intro pins s σ H x y v u Q I rx ry h
  obtain ⟨d, ds, hd, he, sd, se, q⟩ := h
  obtain ⟨as, r1⟩ := Dp.reads I d x v hd rx
  rcases he with he | he
  · obtain ⟨bs, r2⟩ := Dp.reads I (.list ds) y u he ry
    exact SeqAt.in_list_reads r2 r1 (SeqAt.canLay_of_shaped se) (SeqAt.canLay_of_shaped sd) (room_in_shaped sd hu) ⟨.bl _, H, I, rfl, q⟩
  · obtain ⟨bs, r2⟩ := Dp.reads I (.tuple ds) y u he ry
    exact SeqAt.in_tuple_reads r2 r1 (SeqAt.canLay_of_shaped se) (SeqAt.canLay_of_shaped sd) (room_in_shaped sd hu) ⟨.bl _, H, I, rfl, q⟩
theorem o_notIn {X : Cx} (hu : X.A.units + 65 < cLine) : OpR X (compareOp .NotIn) (rInA X.K true) := by
  intro pins s σ H x y v u Q I rx ry h
  obtain ⟨d, ds, hd, he, sd, se, q⟩ := h
  obtain ⟨as, r1⟩ := Dp.reads I d x v hd rx
  rcases he with he | he
  · obtain ⟨bs, r2⟩ := Dp.reads I (.list ds) y u he ry
    exact SeqAt.notIn_list_reads r2 r1 (SeqAt.canLay_of_shaped se) (SeqAt.canLay_of_shaped sd) (room_in_shaped sd hu) ⟨.bl _, H, I, rfl, q⟩
  · obtain ⟨bs, r2⟩ := Dp.reads I (.tuple ds) y u he ry
    exact SeqAt.notIn_tuple_reads r2 r1 (SeqAt.canLay_of_shaped se) (SeqAt.canLay_of_shaped sd) (room_in_shaped sd hu) ⟨.bl _, H, I, rfl, q⟩
@[reducible, simp] def qIn (neg : Bool) : D → D → (D → Prop) → Prop := fun d e P => ∃ ds, (e = .lst ds ∨ e = .tup ds) ∧ d.fit 50 = true ∧ D.fitA ds 50 = true ∧ P (.bl (if neg then !decide (d ∈ ds) else decide (d ∈ ds)))
instance {neg : Bool} : SR T (rInA K neg) (qIn neg) where
  run := fun s rx ry h' k => by
    obtain ⟨ds, he, h1, h2, q⟩ := h'
    have fin : ∀ {Q : VK} {H : Hp} {b b' : Bool}, Q (.bl b) H → b = b' → Q (.bl b') H := fun q e => e ▸ q
    refine ⟨_, D.pyA ds, rx.full.dp h1, ?_, fit_shaped h1 (by omega), fitA_shaped h2 (by omega), fin (k _ _ _ (Stp.refl _ _) (.bl _) q) (by rw [fitA_any h1 _ _ h2])⟩
    rcases he with rfl | rfl
    · left
      have := ry.full.dp (K := K) (n := 51) (by simpa using h2)
      simpa only [D.py] using this
    · right
      have := ry.full.dp (K := K) (n := 51) (by simpa using h2)
      simpa only [D.py] using this
/-- x is None, x is not None, x is not True -/
def rIsN0 : R2 := fun x y H Q => y = .non ∧ Q (.bl (decide (x = .non))) H
theorem o_isN {X : Cx} : OpR X (compareOp .Is) rIsN0 := op_isN
@[reducible, simp] def qIsN : D → D → (D → Prop) → Prop := fun d e P => e = .non ∧ P (.bl (decide (d = .non)))
instance : SR T rIsN0 qIsN where
  run := fun s rx ry h' k => by
    obtain ⟨rfl, q⟩ := h'
    cases ry
    refine ⟨rfl, ?_⟩
    have := k _ _ _ (Stp.refl _ _) (.bl _) q
    cases rx <;> simpa using this
def rNotB0 : R2 := fun x y H Q => ∃ a b, x = .bl a ∧ y = .bl b ∧ Q (.bl (!decide (a = b))) H
@[reducible, simp] def qNotB : D → D → (D → Prop) → Prop := fun d e P => ∃ a b, d = .bl a ∧ e = .bl b ∧ P (.bl (!decide (a = b)))
instance : SR T rNotB0 qNotB where
  run := fun s rx ry h' k => by
    obtain ⟨a, b, rfl, rfl, q⟩ := h'
    cases rx
    cases ry
    exact ⟨a, b, rfl, rfl, k _ _ _ (Stp.refl _ _) (.bl _) q⟩
/-! ### tests -/
@[reducible, simp] def pTest (pe : PE1) : PB1 := fun ρ P => pe ρ fun d => ∃ b, d = .bl b ∧ P b
instance [he : SE T te pe] : STt T (tTest te) (pTest pe) where
  run := fun s h k => he.run s h fun x d H1 s1 r1 h1 => by
    obtain ⟨b, rfl, q⟩ := h1
    cases r1
    exact ⟨b, rfl, k b H1 s1 q⟩
instance [he : SE T te pe] : STt T (tB te) (pTest pe) where
  run := fun s h k => he.run s h fun x d H1 s1 r1 h1 => by
    obtain ⟨b, rfl, q⟩ := h1
    cases r1
    exact ⟨b, rfl, k b H1 s1 q⟩
@[reducible, simp] def pAnd (pt pu : PB1) : PB1 := fun ρ P => pt ρ fun b => if b = true then pu ρ P else P false
@[reducible, simp] def pOr (pt pu : PB1) : PB1 := fun ρ P => pt ρ fun b => if b = true then P true else pu ρ P
@[reducible, simp] def pNot (pt : PB1) : PB1 := fun ρ P => pt ρ fun b => P (!b)
instance [h1 : STt T t pt] [h2 : STt T u pu] : STt T (tAnd t u) (pAnd pt pu) where
  run := fun s h k => h1.run s h fun b H1 s1 h => by
    cases b with
    | true => exact iteT (h2.run (s.step s1) h fun b' H2 s2 q => k b' H2 (s1.trans s2) q)
    | false => exact iteF (k false H1 s1 (by simpa using h))
instance [h1 : STt T t pt] [h2 : STt T u pu] : STt T (tOr t u) (pOr pt pu) where
  run := fun s h k => h1.run s h fun b H1 s1 h => by
    cases b with
    | true => exact iteT (k true H1 s1 (by simpa using h))
    | false => exact iteF (h2.run (s.step s1) (by simpa using h) fun b' H2 s2 q => k b' H2 (s1.trans s2) q)
instance [h1 : STt T t pt] : STt T (tNot t) (pNot pt) where
  run := fun s h k => h1.run s h fun b H1 s1 h => k (!b) H1 s1 h
@[reducible, simp] def pAndV (pa pb : PE1) : PE1 := fun ρ P => pa ρ fun d => ∃ b, d = .bl b ∧ if b = true then pb ρ P else P (.bl false)
@[reducible, simp] def pOrV (pa pb : PE1) : PE1 := fun ρ P => pa ρ fun d => ∃ b, d = .bl b ∧ if b = true then P (.bl true) else pb ρ P
@[reducible, simp] def pNotV (pa : PE1) : PE1 := fun ρ P => pa ρ fun d => ∃ b, d = .bl b ∧ P (.bl (!b))
instance [h1 : SE T ta pa] [h2 : SE T tb pb] : SE T (tAndV ta tb) (pAndV pa pb) where
  run := fun s h k => h1.run s h fun x d H1 s1 r1 h => by
    obtain ⟨b, rfl, h⟩ := h
    cases r1
    refine ⟨b, rfl, ?_⟩
    cases b with
    | true => exact iteT (h2.run (s.step s1) h fun v d' H2 s2 r2 q => k v d' H2 (s1.trans s2) r2 q)
    | false => exact iteF (k _ _ H1 s1 (.bl false) (by simpa using h))
instance [h1 : SE T ta pa] [h2 : SE T tb pb] : SE T (tOrV ta tb) (pOrV pa pb) where
  run := fun s h k => h1.run s h fun x d H1 s1 r1 h => by
    obtain ⟨b, rfl, h⟩ := h
    cases r1
    refine ⟨b, rfl, ?_⟩
    cases b with
    | true => exact iteT (k _ _ H1 s1 (.bl true) (by simpa using h))
    | false => exact iteF (h2.run (s.step s1) (by simpa using h) fun v d' H2 s2 r2 q => k v d' H2 (s1.trans s2) r2 q)
instance [h1 : SE T ta pa] : SE T (tNotV ta) (pNotV pa) where
  run := fun s h k => h1.run s h fun x d H1 s1 r1 h => by
    obtain ⟨b, rfl, h⟩ := h
    cases r1
    exact ⟨b, rfl, k _ _ H1 s1 (.bl _) h⟩
@[reducible, simp] def pIf (pt : PB1) (pa pb : PE1) : PE1 := fun ρ P => pt ρ fun b => if b = true then pa ρ P else pb ρ P
instance [h0 : STt T t pt] [h1 : SE T ta pa] [h2 : SE T tb pb] : SE T (tIf t ta tb) (pIf pt pa pb) where
  run := fun s h k => h0.run s h fun b H1 s1 h => by
    cases b with
    | true => exact iteT (h1.run (s.step s1) h fun v d' H2 s2 r2 q => k v d' H2 (s1.trans s2) r2 q)
    | false => exact iteF (h2.run (s.step s1) (by simpa using h) fun v d' H2 s2 r2 q => k v d' H2 (s1.trans s2) r2 q)
@[reducible, simp] def pChain (q q' : D → D → (D → Prop) → Prop) (pa pb pf : PE1) : PE1 := fun ρ P => pa ρ fun d => pb ρ fun e => q d e fun z => ∃ b, z = .bl b ∧ if b = true then pf ρ fun g => q' e g P else P (.bl false)
instance {r r' : R2} {q q' : D → D → (D → Prop) → Prop} [hr : SR T r q] [hr' : SR T r' q'] [ha : SE T ta pa] [hb : SE T tb pb] [hf : SE T tf pf] : SE T (tChain r r' ta tb tf) (pChain q q' pa pb pf) where
  run := fun s h k => ha.run s h fun x d H1 s1 r1 h1 => hb.run (s.step s1) h1 fun y e H2 s2 r2 h2 =>
    hr.run ((s.step s1).step s2) (r1.mono (s2.mask s.ok)) r2 h2 fun z d' H3 s3 r3 h3 => by
      obtain ⟨b, rfl, h3⟩ := h3
      cases r3
      refine ⟨b, rfl, ?_⟩
      cases b with
      | false => exact iteF (k _ _ H3 ((s1.trans s2).trans s3) (.bl false) (by simpa using h3))
      | true =>
        refine iteT (hf.run (((s.step s1).step s2).step s3) h3 fun g d4 H4 s4 r4 h4 => ?_)
        exact hr'.run ((((s.step s1).step s2).step s3).step s4) (r2.mono ((s3.trans s4).mask s.ok)) r4 h4 fun v d5 H5 s5 r5 h5 => k v d5 H5 ((((s1.trans s2).trans s3).trans s4).trans s5) r5 h5
/-! ### arguments, displays -/
@[reducible, simp] def pNil : PA1 := fun _ P => P []
@[reducible, simp] def pCons (pe : PE1) (pr : PA1) : PA1 := fun ρ P => pe ρ fun d => pr ρ fun ds => P (d :: ds)
instance : SA T tNil pNil where
  run := fun s h k => k _ _ _ (Stp.refl _ _) .nil h
instance {tr : TA} {pr : PA1} [he : SE T te pe] [hr : SA T tr pr] : SA T (tCons te tr) (pCons pe pr) where
  run := fun s h k => he.run s h fun x d H1 s1 r1 h1 => hr.run (s.step s1) h1 fun vs ds H2 s2 r2 h2 => k _ _ H2 (s1.trans s2) (.cons (r1.mono (s2.mask s.ok)) r2) h2
@[reducible, simp] def pTup (p : PA1) : PE1 := fun ρ P => p ρ fun ds => ds.length ≤ 10000 ∧ P (.tup ds)
@[reducible, simp] def pLst (p : PA1) : PA1 := fun ρ P => p ρ fun ds => ds.length ≤ 10000 ∧ P ds
theorem size_ok {n : Nat} (h : n ≤ 10000) : n ≤ sizeLine := Nat.le_trans h (by decide)
instance {tr : TA} {pr : PA1} [hr : SA T tr pr] : SE T (tTup tr) (pTup pr) where
  run := fun s h k => hr.run s h fun vs ds H1 s1 r1 h1 => ⟨by rw [r1.length]; exact size_ok h1.1, fun p hp => by
    obtain ⟨e1, e2⟩ := (s.step s1).lay (o := .tup vs) hp
    exact k _ _ _ (s1.trans e1) (.tup e2 (r1.mono (e1.mask s.ok))) h1.2⟩
instance {tr : TA} {pr : PA1} [hr : SA T tr pr] : SF T (tLst tr) (pLst pr) where
  run := fun s h k => hr.run s h fun vs ds H1 s1 r1 h1 => ⟨by rw [r1.length]; exact size_ok h1.1, fun p hp => by
    obtain ⟨e1, e2⟩ := (s.step s1).lay (o := .lst vs) hp
    refine k p vs ds _ (s1.trans e1) (fresh_back (s.step s1) s1 hp) upd_same (r1.mono fun b o q => ?_) h1.2
    obtain ⟨q1, q2⟩ := mask_some q
    have hb : b ≠ p := fun e => by rw [e, hp] at q2; cases q2
    rw [mask_out (by simp only [List.mem_cons, not_or]; exact ⟨hb, q1⟩), upd_ne hb]
    exact q2⟩
/-- a new list at a free place -/
theorem new_lst {c : Cfg} {L : List Addr} {H : Hp} {σ : L2.St} {ρ : En} {p : Addr} {xs : List V} {ds : List D} (s : SOk T c L H σ ρ) (hp : H p = none) (r : RpA T (mask (L ++ c.M) H) xs ds) :
    Stp c H (upd H p (.lst xs)) ∧ upd H p (.lst xs) p = some (.lst xs) ∧ RpA T (mask (p :: (L ++ c.M)) (upd H p (.lst xs))) xs ds := by
  refine ⟨(s.lay hp).1, upd_same, r.mono fun b o q => ?_⟩
  obtain ⟨q1, q2⟩ := mask_some q
  have hb : b ≠ p := fun e => by rw [e, hp] at q2; cases q2
  rw [mask_out (by simp only [List.mem_cons, not_or]; exact ⟨hb, q1⟩), upd_ne hb]
  exact q2
/-! + of lists, of tuples; slices; items -/
@[reducible, simp] def qCat : D → D → (List D → Prop) → Prop := fun d e P => ∃ ds es, d = .lst ds ∧ e = .lst es ∧ ds.length + es.length ≤ 10000 ∧ P (ds ++ es)
instance : SRF T rCat qCat where
  run := fun s rx ry h' k => by
    obtain ⟨ds, es, rfl, rfl, hz, q⟩ := h'
    cases rx with
    | lst h1 r1 =>
      cases ry with
      | lst h2 r2 =>
        refine ⟨_, _, _, _, rfl, rfl, (mask_some h1).2, (mask_some h2).2, by rw [r1.length, r2.length]; exact size_ok hz, fun p hp => ?_⟩
        obtain ⟨e1, e2, e3⟩ := new_lst s hp (r1.append r2)
        exact k _ _ _ _ e1 hp e2 e3 q
@[reducible, simp] def qCatT : D → D → (D → Prop) → Prop := fun d e P => ∃ ds es, d = .tup ds ∧ e = .tup es ∧ ds.length + es.length ≤ 10000 ∧ P (.tup (ds ++ es))
instance : SR T (rCatA K) qCatT where
  run := fun s rx ry h' k => by
    obtain ⟨ds, es, rfl, rfl, hz, q⟩ := h'
    cases rx with
    | @tup a xs _ h1 r1 =>
      cases ry with
      | @tup b ys _ h2 r2 =>
        refine ⟨a, b, xs, ys, rfl, rfl, SqT.of (mask_some h1).2, SqT.of (mask_some h2).2, by rw [r1.length, r2.length]; exact size_ok hz, fun e0 => ?_, fun _ e0 => ?_, fun _ _ p hp => ?_⟩
        · subst e0
          cases r1
          exact k _ _ _ (Stp.refl _ _) (.tup h2 r2) q
        · subst e0
          cases r2
          exact k _ _ _ (Stp.refl _ _) (.tup h1 (by simpa using r1)) q
        · obtain ⟨e1, e2⟩ := s.lay (o := .tup (xs ++ ys)) hp
          exact k _ _ _ e1 (.tup e2 ((r1.append r2).mono (e1.mask s.ok))) q
abbrev cutD (ds : List D) (lo hi : Option Int) : List D := (ds.drop (HT.sIx ds.length 0 lo)).take (HT.sIx ds.length ds.length hi - HT.sIx ds.length 0 lo)
@[reducible, simp] def pNoPart : PO1 := fun _ P => P none
@[reducible, simp] def pPart (pe : PE1) : PO1 := fun ρ P => pe ρ fun d => ∃ i, d = .int i ∧ P (some i)
instance : SO T tNoPart pNoPart where
  run := fun s h k => k _ _ (Stp.refl _ _) h
instance [he : SE T te pe] : SO T (tPart te) (pPart pe) where
  run := fun s h k => he.run s h fun x d H1 s1 r1 h1 => by
    obtain ⟨i, rfl, q⟩ := h1
    cases r1
    exact ⟨i, rfl, k _ _ s1 q⟩
/-- a slice of a tuple -/
@[reducible, simp] def pSlT (pe : PE1) (pl ph : PO1) : PE1 := fun ρ P => pe ρ fun d => pl ρ fun lo => ph ρ fun hi => ∃ ds, d = .tup ds ∧ P (.tup (cutD ds lo hi))
instance {tl th : TO} {pl ph : PO1} [he : SE T te pe] [hl : SO T tl pl] [hh : SO T th ph] : SE T (tSl (rSlA K) te tl th) (pSlT pe pl ph) where
  run := fun s h k => he.run s h fun x d H1 s1 r1 h1 => hl.run (s.step s1) h1 fun lo H2 s2 h2 => hh.run ((s.step s1).step s2) h2 fun hi H3 s3 h3 => by
    obtain ⟨ds, rfl, q⟩ := h3
    have S := ((s.step s1).step s2).step s3
    have r3 := r1.mono ((s2.trans s3).mask s.ok)
    cases r3 with
    | @tup a xs _ h4 r4 =>
      refine ⟨a, xs, rfl, SqT.of (mask_some h4).2, fun hw => ?_, fun hw p hp => ?_⟩
      · refine k _ _ _ ((s1.trans s2).trans s3) (.tup h4 r4) ?_
        have e : cutD ds lo hi = ds := by
          have hl := r4.length
          unfold cutD
          rw [← hl, hw.1, hw.2, List.drop_zero, Nat.sub_zero, hl, List.take_length]
        rw [e] at q
        exact q
      · obtain ⟨e1, e2⟩ := S.lay (o := .tup (cutV xs lo hi)) hp
        exact k _ _ _ (((s1.trans s2).trans s3).trans e1) (.tup e2 ((r4.cut lo hi).mono (e1.mask s.ok))) q
/-- a slice of a list -/
@[reducible, simp] def pSlL (pe : PE1) (pl ph : PO1) : PA1 := fun ρ P => pe ρ fun d => pl ρ fun lo => ph ρ fun hi => ∃ ds, d = .lst ds ∧ P (cutD ds lo hi)
instance {tl th : TO} {pl ph : PO1} [he : SE T te pe] [hl : SO T tl pl] [hh : SO T th ph] : SF T (tSl (rSlL K) te tl th) (pSlL pe pl ph) where
  run := fun s h k => he.run s h fun x d H1 s1 r1 h1 => hl.run (s.step s1) h1 fun lo H2 s2 h2 => hh.run ((s.step s1).step s2) h2 fun hi H3 s3 h3 => by
    obtain ⟨ds, rfl, q⟩ := h3
    have S := ((s.step s1).step s2).step s3
    have r3 := r1.mono ((s2.trans s3).mask s.ok)
    cases r3 with
    | @lst a xs _ h4 r4 =>
      refine ⟨a, xs, rfl, SqL.of (mask_some h4).2, fun p hp => ?_⟩
      obtain ⟨e1, e2, e3⟩ := new_lst S hp (r4.cut lo hi)
      exact k _ _ _ _ (((s1.trans s2).trans s3).trans e1) (fresh_back S ((s1.trans s2).trans s3) hp) e2 e3 q
/-- a slice of either -/
def rSlE (K : PySem.W.Frag) : V → Option Int → Option Int → Hp → VK → Prop := fun x lo hi H Q => rSlL K x lo hi H Q ∨ rSlA K x lo hi H Q
theorem sl_any {X : Cx} : SlR X (rSlE X.K) := sl_list.or sl_tupA
@[reducible, simp] def pSlE (pe : PE1) (pl ph : PO1) : PE1 := fun ρ P => pe ρ fun d => pl ρ fun lo => ph ρ fun hi => (∃ ds, d = .lst ds ∧ P (.lst (cutD ds lo hi))) ∨ ∃ ds, d = .tup ds ∧ P (.tup (cutD ds lo hi))
instance {tl th : TO} {pl ph : PO1} [he : SE T te pe] [hl : SO T tl pl] [hh : SO T th ph] : SE T (tSl (rSlE K) te tl th) (pSlE pe pl ph) where
  run := fun s h k => he.run s h fun x d H1 s1 r1 h1 => hl.run (s.step s1) h1 fun lo H2 s2 h2 => hh.run ((s.step s1).step s2) h2 fun hi H3 s3 h3 => by
    have S := ((s.step s1).step s2).step s3
    have r3 := r1.mono ((s2.trans s3).mask s.ok)
    rcases h3 with ⟨ds, rfl, q⟩ | ⟨ds, rfl, q⟩
    · cases r3 with
      | @lst a xs _ h4 r4 =>
        refine .inl ⟨a, xs, rfl, SqL.of (mask_some h4).2, fun p hp => ?_⟩
        obtain ⟨e1, e2, e3⟩ := new_lst S hp (r4.cut lo hi)
        exact k _ _ _ (((s1.trans s2).trans s3).trans e1) (.lst (by rw [mask_out (S.fresh hp)]; exact e2) (e3.mono (mask_sub fun b hb => List.mem_cons_of_mem _ hb))) q
    · cases r3 with
      | @tup a xs _ h4 r4 =>
        refine .inr ⟨a, xs, rfl, SqT.of (mask_some h4).2, fun hw => ?_, fun hw p hp => ?_⟩
        · refine k _ _ _ ((s1.trans s2).trans s3) (.tup h4 r4) ?_
          have e : cutD ds lo hi = ds := by
            have hl := r4.length
            unfold cutD
            rw [← hl, hw.1, hw.2, List.drop_zero, Nat.sub_zero, hl, List.take_length]
          rw [e] at q
          exact q
        · obtain ⟨e1, e2⟩ := S.lay (o := .tup (cutV xs lo hi)) hp
          exact k _ _ _ (((s1.trans s2).trans s3).trans e1) (.tup e2 ((r4.cut lo hi).mono (e1.mask s.ok))) q
/-- xs[i], t[i], i not negative -/
@[reducible, simp] def qIx : D → D → (D → Prop) → Prop := fun d e P => ∃ (ds : List D) (n : Nat) (x : D), (d = .lst ds ∨ d = .tup ds) ∧ e = .int (n : Int) ∧ ds[n]? = some x ∧ P x
instance : SR T (rIx K) qIx where
  run := fun s rx ry h' k => by
    obtain ⟨ds, n, x, hd, rfl, hx, q⟩ := h'
    cases ry
    rcases hd with rfl | rfl
    · cases rx with
      | @lst a xs _ h4 r4 =>
        obtain ⟨v, hv, rv⟩ := r4.getD hx
        exact .inl ⟨a, xs, n, v, rfl, rfl, SqL.of (mask_some h4).2, atI_nat hv, k _ _ _ (Stp.refl _ _) rv q⟩
    · cases rx with
      | @tup a xs _ h4 r4 =>
        obtain ⟨v, hv, rv⟩ := r4.getD hx
        exact .inr (.inl ⟨a, xs, n, v, rfl, rfl, SqT.of (mask_some h4).2, atI_nat hv, k _ _ _ (Stp.refl _ _) rv q⟩)
end
end
end DL
/-! DL2: statements, loops, calls, by plain data -/
namespace DL
open PySem L2 PyProof.Rows
noncomputable section
/-! ### what a statement asks -/
structure Fn where
  nx : En → Prop
  rt : D → Prop
  bk : En → Prop := fun _ => False
  ct : En → Prop := fun _ => False
abbrev PS1 := En → Fn → Prop
/-- behind it, wherever the def began at H0 -/
def At (T : Tx) (c : Cfg) (H0 : Hp) (F : En → Prop) (D : L2.St → Hp → Prop) : Prop := ∀ L H σ ρ, SOk T c L H σ ρ → Stp c H0 H → (∀ a ∈ L, H0 a = none) → F ρ → D σ H
structure Out (T : Tx) (c : Cfg) (H0 : Hp) (F : Fn) (D : Ends) : Prop where
  nx : At T c H0 F.nx D.nx
  rt : ∀ v d H, Stp c H0 H → Rp T (mask c.M H) v d → F.rt d → D.rt v H
  bk : At T c H0 F.bk D.bk
  ct : At T c H0 F.ct D.ct
class SS (T : Tx) (ts : TS) (q : outParam PS1) : Prop where
  run : ∀ {c : Cfg} {L : List Addr} {H H0 : Hp} {σ : L2.St} {ρ : En} {F : Fn} {D : Ends}, SOk T c L H σ ρ → Stp c H0 H → (∀ a ∈ L, H0 a = none) → q ρ F → Out T c H0 F D → ts D σ H
section
variable {T : Tx} {c : Cfg} {L : List Addr} {H H' H0 : Hp} {σ : L2.St} {ρ : En}
/-- a slot gets a datum -/
theorem key_set {ρ : En} {i : Nat} {k : Kn} {j : Nat} {z : Kn} (h : (ρ.set i (some k))[j]? = some (some z)) : (j = i ∧ z = k ∧ j < ρ.length) ∨ (j ≠ i ∧ ρ[j]? = some (some z)) := by
  by_cases e : j = i
  · subst e
    rw [List.getElem?_set] at h
    simp only [if_true] at h
    split at h
    · left; simp at h; exact ⟨rfl, h.symm, by assumption⟩
    · cases h
  · right; rw [List.getElem?_set_ne (fun q => e q.symm)] at h; exact ⟨e, h⟩
theorem oth_set {σ : L2.St} {i j : Nat} {v : Option V} (h : j ≠ i) : (σ.set i v)[j]? = σ[j]? := List.getElem?_set_ne (fun q => h q.symm)
theorem mask_chg {M : List Addr} {H : Hp} {a : Addr} {o : HO} (h : a ∈ M) : mask M (upd H a o) = mask M H := by
  funext b
  by_cases q : b ∈ M
  · rw [mask_in q, mask_in q]
  · rw [mask_out q, mask_out q, upd_ne]
    rintro rfl
    exact q h
theorem SOk.setk0 (s : SOk T c L H σ ρ) {i : Nat} {v : V} {k : Kn} (r : OwnAt T c L H k v) (na : k.adr v = []) : SOk T c L H (σ.set i (some v)) (ρ.set i (some k)) := by
  refine ⟨s.ok, by rw [List.length_set, List.length_set]; exact s.len, fun j d' h => ?_, fun j j' k1 k2 v1 v2 a h h' e e' q q' => ?_, s.lst, s.LM, s.dok⟩
  · rcases key_set h with ⟨rfl, e, hl⟩ | ⟨hj, h0⟩
    · subst e
      exact ⟨v, by rw [List.getElem?_set_self (by rw [s.len]; exact hl)], r⟩
    · rw [oth_set hj]; exact s.all j d' h0
  · rcases key_set h with ⟨rfl, z, hl⟩ | ⟨hj, h0⟩
    · subst z
      rw [List.getElem?_set_self (by rw [s.len]; exact hl)] at e
      cases e
      rw [na] at q
      cases q
    · rcases key_set h' with ⟨rfl, z, hl⟩ | ⟨hj', h1⟩
      · subst z
        rw [List.getElem?_set_self (by rw [s.len]; exact hl)] at e'
        cases e'
        rw [na] at q'
        cases q'
      · rw [oth_set hj] at e; rw [oth_set hj'] at e'
        exact s.inj j j' _ _ _ _ a h0 h1 e e' q q'
theorem SOk.setv (s : SOk T c L H σ ρ) {i : Nat} {v : V} {d : D} (r : Rp T (mask (L ++ c.M) H) v d) : SOk T c L H (σ.set i (some v)) (ρ.set i (some (.v d))) := s.setk0 r rfl
/-- a slot gets a new thing of the def's own -/
theorem SOk.setk (s : SOk T c L H σ ρ) {i : Nat} {A : List Addr} {v : V} {k : Kn} (st : Stp c H H') (n : ∀ a ∈ A, H a = none) (nt : ∀ a ∈ A, NT H' a) (r : OwnAt T c (A ++ L) H' k v) (hA : ∀ a ∈ k.adr v, a ∈ A) :
    SOk T c (A ++ L) H' (σ.set i (some v)) (ρ.set i (some k)) := by
  have s' := s.step st
  have carry : Same (mask (L ++ c.M) H) (mask ((A ++ L) ++ c.M) H') := fun b o q => by
    obtain ⟨q1, q2⟩ := mask_some q
    have hb : b ∉ A := fun z => by rw [n b z] at q2; cases q2
    rw [mask_out (by rw [List.append_assoc]; exact fun z => (List.mem_append.mp z).elim hb q1)]
    exact st.keep b o (s.ok.out fun z => q1 (List.mem_append_right _ z)) q2
  have apart : ∀ {j : Nat} {k1 : Kn} {v1 : V} {a : Addr}, ρ[j]? = some (some k1) → σ[j]? = some (some v1) → a ∈ k1.adr v1 → a ∉ A := fun {j k1 v1 a} h0 e q z => by
    obtain ⟨w, e1, ow⟩ := s.all j k1 h0
    rw [e] at e1
    cases e1
    exact s.fresh (n a z) (List.mem_append_left _ (ow.inL a q))
  refine ⟨s.ok, by rw [List.length_set, List.length_set]; exact s.len, fun j d' h => ?_, fun j j' k1 k2 v1 v2 a h h' e1 e2 q q' => ?_, fun b hb => ?_, fun b hb => ?_, s'.dok⟩
  · rcases key_set h with ⟨rfl, q, hl⟩ | ⟨hj, h0⟩
    · subst q
      exact ⟨v, by rw [List.getElem?_set_self (by rw [s.len]; exact hl)], r⟩
    · rw [oth_set hj]
      obtain ⟨w, h1, h2⟩ := s.all j d' h0
      exact ⟨w, h1, h2.move carry fun a ha => ⟨List.mem_append_right _ (h2.inL a ha), s.keepL st (h2.inL a ha)⟩⟩
  · rcases key_set h with ⟨rfl, z, hl⟩ | ⟨hj, h0⟩
    · subst z
      rw [List.getElem?_set_self (by rw [s.len]; exact hl)] at e1
      cases e1
      rcases key_set h' with ⟨q2, _, _⟩ | ⟨hj', h1⟩
      · exact q2.symm
      · rw [oth_set hj'] at e2
        exact absurd (hA a q) (apart h1 e2 q')
    · rw [oth_set hj] at e1
      rcases key_set h' with ⟨rfl, z, hl⟩ | ⟨hj', h1⟩
      · subst z
        rw [List.getElem?_set_self (by rw [s.len]; exact hl)] at e2
        cases e2
        exact absurd (hA a q') (apart h0 e1 q)
      · rw [oth_set hj'] at e2
        exact s.inj j j' _ _ _ _ a h0 h1 e1 e2 q q'
  · rw [List.append_assoc] at hb
    rcases List.mem_append.mp hb with hb | hb
    · exact nt b hb
    · exact s'.lst b hb
  · rcases List.mem_append.mp hb with hb | hb
    · exact fun z => s.fresh (n b hb) (List.mem_append_right _ z)
    · exact s.LM b hb
/-- a slot gets a new list of the def's own -/
theorem SOk.seto (s : SOk T c L H σ ρ) {i : Nat} {a : Addr} {xs : List V} {ds : List D} (st : Stp c H H') (n : H a = none) (e : H' a = some (.lst xs)) (r : RpA T (mask (a :: (L ++ c.M)) H') xs ds) :
    SOk T c (a :: L) H' (σ.set i (some (.ref a))) (ρ.set i (some (.o ds))) :=
  s.setk (A := [a]) (k := .o ds) st (fun b hb => by rw [List.mem_singleton.mp hb]; exact n) (fun b hb => by rw [List.mem_singleton.mp hb]; exact .lst e) ⟨a, xs, rfl, List.mem_cons_self, e, r⟩ fun b hb => hb
theorem Stp.new_none (s : SOk T c L H σ ρ) (e : Stp c H0 H) {a : Addr} (n : H a = none) : H0 a = none := e.free n (s.nodr' n)
/-- a thing of the def's own changes; A: what is new beside it -/
theorem SOk.alt (s : SOk T c L H σ ρ) {i : Nat} {k k' : Kn} {v : V} {A : List Addr} (h : ρ[i]? = some (some k)) (h2 : σ[i]? = some (some v)) (n : ∀ a ∈ A, H a = none) (nt : ∀ a ∈ A, NT H' a) (nt2 : ∀ a ∈ k.adr v, NT H' a)
    (ch : ∀ b, b ∉ A → b ∉ k.adr v → H' b = H b) (r : OwnAt T c (A ++ L) H' k' v) (hA : ∀ a ∈ k'.adr v, a ∈ A ∨ a ∈ k.adr v) : SOk T c (A ++ L) H' σ (ρ.set i (some k')) := by
  obtain ⟨w, e1, ow⟩ := s.all i k h
  rw [h2] at e1
  cases e1
  have inL := ow.inL
  have carry : Same (mask (L ++ c.M) H) (mask ((A ++ L) ++ c.M) H') := fun b o q => by
    obtain ⟨q1, q2⟩ := mask_some q
    have hb : b ∉ A := fun z => by rw [n b z] at q2; cases q2
    rw [mask_out (by rw [List.append_assoc]; exact fun z => (List.mem_append.mp z).elim hb q1), ch b hb fun z => q1 (List.mem_append_left _ (inL b z))]
    exact q2
  have freshA : ∀ {b}, b ∈ A → b ∉ L ++ c.M := fun hb => s.fresh (n _ hb)
  have apart : ∀ {j : Nat} {k1 : Kn} {v1 : V} {a : Addr}, j ≠ i → ρ[j]? = some (some k1) → σ[j]? = some (some v1) → a ∈ k1.adr v1 → a ∉ A ∧ a ∉ k.adr v := fun {j k1 v1 a} hj h0 e q => by
    obtain ⟨w, e1, ow1⟩ := s.all j k1 h0
    rw [e] at e1
    cases e1
    exact ⟨fun z => freshA z (List.mem_append_left _ (ow1.inL a q)), fun z => hj (s.inj j i _ _ _ _ a h0 h e h2 q z)⟩
  refine ⟨s.ok, by rw [List.length_set]; exact s.len, fun j d' q => ?_, fun j j' k1 k2 v1 v2 a q q' e1 e2 z z' => ?_, fun b hb => ?_, fun b hb => ?_, fun b hb => ?_⟩
  · rcases key_set q with ⟨rfl, q0, _⟩ | ⟨hj, q0⟩
    · subst q0
      exact ⟨v, h2, r⟩
    · obtain ⟨w, g1, g2⟩ := s.all j d' q0
      exact ⟨w, g1, g2.move carry fun a ha => ⟨List.mem_append_right _ (g2.inL a ha), ch a (apart hj q0 g1 ha).1 (apart hj q0 g1 ha).2⟩⟩
  · rcases key_set q with ⟨rfl, q0, _⟩ | ⟨hj, q0⟩
    · subst q0
      rw [h2] at e1
      cases e1
      rcases key_set q' with ⟨q2, _⟩ | ⟨hj', q1⟩
      · exact q2.symm
      · obtain ⟨y1, y2⟩ := apart hj' q1 e2 z'
        exact ((hA a z).elim y1 y2).elim
    · rcases key_set q' with ⟨rfl, q1, _⟩ | ⟨hj', q1⟩
      · subst q1
        rw [h2] at e2
        cases e2
        obtain ⟨y1, y2⟩ := apart hj q0 e1 z
        exact ((hA a z').elim y1 y2).elim
      · exact s.inj j j' _ _ _ _ a q0 q1 e1 e2 z z'
  · rw [List.append_assoc] at hb
    rcases List.mem_append.mp hb with hb | hb
    · exact nt b hb
    · by_cases q : b ∈ k.adr v
      · exact nt2 b q
      · obtain ⟨o, e, z⟩ := s.lst b hb
        exact ⟨o, by rw [ch b (fun y => freshA y hb) q]; exact e, z⟩
  · rcases List.mem_append.mp hb with hb | hb
    · exact fun z => freshA hb (List.mem_append_right _ z)
    · exact s.LM b hb
  · obtain ⟨p, ns, e1, e2, e3, e4⟩ := s.dok b hb
    have out : ∀ y, y ∈ c.M → H' y = H y := fun y hy => ch y (fun z => freshA z (List.mem_append_right _ hy)) fun z => s.LM y (inL y z) hy
    exact ⟨p, ns, by rw [out _ (s.ok.drM b hb).1]; exact e1, e2, by rw [out _ (s.ok.drM b hb).2]; exact e3, e4⟩
/-- an own list changes -/
theorem SOk.chg (s : SOk T c L H σ ρ) {i : Nat} {a : Addr} {ys : List V} {ds es : List D} (h : ρ[i]? = some (some (.o ds))) (h2 : σ[i]? = some (some (.ref a))) (r : RpA T (mask (L ++ c.M) H) ys es) :
    SOk T c L (upd H a (.lst ys)) σ (ρ.set i (some (.o es))) := by
  obtain ⟨a', xs', g1, g2, g3, g4⟩ := s.own i ds h
  rw [h2] at g1
  cases g1
  have hm : mask (L ++ c.M) (upd H a (.lst ys)) = mask (L ++ c.M) H := mask_chg (List.mem_append_left _ g2)
  refine s.alt (A := []) (k' := .o es) h h2 (fun b hb => nomatch hb) (fun b hb => nomatch hb) (fun b hb => ?_) (fun b _ hb => ?_) ⟨a, ys, rfl, g2, upd_same, ?_⟩ fun b hb => .inr hb
  · rw [show b = a from by simpa [Kn.adr] using hb]
    exact .lst upd_same
  · exact upd_ne (by simpa [Kn.adr] using hb)
  · show RpA T (mask (L ++ c.M) _) ys es
    rw [hm]
    exact r
/-- the reference heap is kept when a list of L changes -/
theorem Stp.chg (s : SOk T c L H σ ρ) (e : Stp c H0 H) (f : ∀ a ∈ L, H0 a = none) {a : Addr} {o : HO} (ha : a ∈ L) : Stp c H0 (upd H a o) := by
  refine ⟨fun b ob n q => ?_, fun b hb q => ?_⟩
  · rw [upd_ne (by rintro rfl; rw [f b ha] at q; cases q)]
    exact e.keep b ob n q
  · obtain ⟨p, ns, e1, e2, e3, e4⟩ := e.dr b hb q
    have h1 : b.1 ≠ a := fun z => s.LM a ha (z ▸ (s.ok.drM b hb).1)
    have h3 : b.2 ≠ a := fun z => s.LM a ha (z ▸ (s.ok.drM b hb).2)
    exact ⟨p, ns, by rw [upd_ne h1]; exact e1, e2, by rw [upd_ne h3]; exact e3, e4⟩
/-- a thing of the def's own seen as a datum -/
theorem SOk.borK (s : SOk T c L H σ ρ) {i : Nat} {k : Kn} {v : V} {d : D} (h : ρ[i]? = some (some k)) (h2 : σ[i]? = some (some v)) (r : Rp T (mask ((L.filter fun b => decide (b ∉ k.adr v)) ++ c.M) H) v d) :
    SOk T c (L.filter fun b => decide (b ∉ k.adr v)) H σ (ρ.set i (some (.v d))) := by
  have sub : ∀ b ∈ (L.filter fun b => decide (b ∉ k.adr v)) ++ c.M, b ∈ L ++ c.M := fun b hb => by
    rcases List.mem_append.mp hb with hb | hb
    · exact List.mem_append_left _ (List.mem_filter.mp hb).1
    · exact List.mem_append_right _ hb
  refine ⟨s.ok, by rw [List.length_set]; exact s.len, fun j d' q => ?_, fun j j' k1 k2 v1 v2 b q q' e1 e2 z z' => ?_, fun b hb => s.lst b (sub b hb), fun b hb => s.LM b (List.mem_filter.mp hb).1, s.dok⟩
  · rcases key_set q with ⟨rfl, q0, _⟩ | ⟨hj, q0⟩
    · subst q0
      exact ⟨v, h2, r⟩
    · obtain ⟨w, g1, g2⟩ := s.all j d' q0
      refine ⟨w, g1, g2.move (mask_sub sub) fun a ha => ⟨List.mem_filter.mpr ⟨g2.inL a ha, ?_⟩, rfl⟩⟩
      simp only [decide_eq_true_eq]
      exact fun z => hj (s.inj j i _ _ _ _ a q0 h g1 h2 ha z)
  · rcases key_set q with ⟨rfl, q0, _⟩ | ⟨hj, q0⟩
    · subst q0; simp [Kn.adr] at z
    · rcases key_set q' with ⟨rfl, q1, _⟩ | ⟨hj', q1⟩
      · subst q1; simp [Kn.adr] at z'
      · exact s.inj j j' _ _ _ _ b q0 q1 e1 e2 z z'
/-- an own list seen as a datum, for a while -/
theorem SOk.bor (s : SOk T c L H σ ρ) {i : Nat} {ds : List D} (h : ρ[i]? = some (some (.o ds))) : ∃ L', (∀ b ∈ L', b ∈ L) ∧ SOk T c L' H σ (ρ.set i (some (.v (.lst ds)))) := by
  obtain ⟨a, xs, g1, g2, g3, g4⟩ := s.own i ds h
  refine ⟨_, fun b hb => (List.mem_filter.mp hb).1, s.borK h g1 (.lst (xs := xs) ?_ (g4.mono (mask_sub fun b hb => ?_)))⟩
  · rw [mask_out fun z => ?_]
    · exact g3
    · rcases List.mem_append.mp z with z | z
      · have := (List.mem_filter.mp z).2
        simp [Kn.adr] at this
      · exact s.LM a g2 z
  · rcases List.mem_append.mp hb with hb | hb
    · exact List.mem_append_left _ (List.mem_filter.mp hb).1
    · exact List.mem_append_right _ hb
theorem SOk.bord (s : SOk T c L H σ ρ) {i : Nat} {ks vs : List D} (h : ρ[i]? = some (some (.od ks vs))) : ∃ L', (∀ b ∈ L', b ∈ L) ∧ SOk T c L' H σ (ρ.set i (some (.v (.dct ks vs)))) := by
  obtain ⟨a, es, g1, g2, ⟨ep, g3⟩, g4⟩ := s.ownd i ks vs h
  have sub : ∀ b ∈ (L.filter fun b => decide (b ∉ (Kn.od ks vs).adr (.ref a))) ++ c.M, b ∈ L ++ c.M := fun b hb => by
    rcases List.mem_append.mp hb with hb | hb
    · exact List.mem_append_left _ (List.mem_filter.mp hb).1
    · exact List.mem_append_right _ hb
  have g5 := g4.mono (mask_sub (H := H) sub)
  refine ⟨_, fun b hb => (List.mem_filter.mp hb).1, s.borK h g1 (.dct (ep := ep) (es := es) ?_ g5.hk g5.dp g5.rk g5.rv)⟩
  rw [mask_out fun z => ?_]
  · exact g3
  · rcases List.mem_append.mp z with z | z
    · have := (List.mem_filter.mp z).2
      simp [Kn.adr] at this
    · exact s.LM a g2 z
/-- a slot is forgotten -/
theorem SOk.forget (s : SOk T c L H σ ρ) {i : Nat} {v : Option V} : SOk T c L H (σ.set i v) (ρ.set i none) := by
  have key : ∀ {j : Nat} {z : Kn}, (ρ.set i none)[j]? = some (some z) → j ≠ i ∧ ρ[j]? = some (some z) := fun {j z} q => by
    by_cases e : j = i
    · subst e
      rw [List.getElem?_set] at q
      simp only [if_true] at q
      split at q
      · simp at q
      · cases q
    · rw [List.getElem?_set_ne (fun q => e q.symm)] at q; exact ⟨e, q⟩
  refine ⟨s.ok, by rw [List.length_set, List.length_set]; exact s.len, fun j d' h => ?_, fun j j' k1 k2 v1 v2 a h h' e e' q q' => ?_, s.lst, s.LM, s.dok⟩
  · rw [oth_set (key h).1]; exact s.all j d' (key h).2
  · rw [oth_set (key h).1] at e; rw [oth_set (key h').1] at e'
    exact s.inj j j' _ _ _ _ a (key h).2 (key h').2 e e' q q'
end
end
end DL
/-! DL3: statements -/
namespace DL
open PySem L2 PyProof.Rows
noncomputable section
section
variable {T : Tx} {K : PySem.W.Frag} {te tb tf : TE} {pe pb pf : PE1} {t u : TS} {q q' : PS1} {tt : TT} {pt : PB1}
/-! ### borrow: an own list read as a datum -/
abbrev tBor (i : Nat) (te : TE) : TE := te
def tBorE (i : Nat) (te : TE) : TE := te
def tBorT (i : Nat) (te : TT) : TT := te
def tBorA (i : Nat) (te : TA) : TA := te
theorem pe_bor (i : Nat) {X : Cx} {e : Expr} (h : PE X e te) : PE X e (tBorE i te) := h
theorem pt_bor (i : Nat) {X : Cx} {e : Expr} (h : PT X e tt) : PT X e (tBorT i tt) := h
@[reducible, simp] def pBor (i : Nat) (pe : PE1) : PE1 := fun ρ P => ∃ ds, ρ[i]? = some (some (.o ds)) ∧ pe (ρ.set i (some (.v (.lst ds)))) fun d => d.im = true ∧ P d
@[reducible, simp] def pBorT (i : Nat) (pt : PB1) : PB1 := fun ρ P => ∃ ds, ρ[i]? = some (some (.o ds)) ∧ pt (ρ.set i (some (.v (.lst ds)))) P
@[reducible, simp] def pBorF (i : Nat) (pe : PA1) : PA1 := fun ρ P => ∃ ds, ρ[i]? = some (some (.o ds)) ∧ pe (ρ.set i (some (.v (.lst ds)))) fun d => D.imA d = true ∧ P d
instance {i : Nat} [he : SE T te pe] : SE T (tBorE i te) (pBor i pe) where
  run := fun {c L H σ ρ P Q} s h k => by
    obtain ⟨ds, hi, h⟩ := h
    obtain ⟨L', hL, sb⟩ := s.bor hi
    refine he.run sb h fun v d H' st r h1 => k v d H' st ?_ h1.2
    have S' := s.step st
    refine r.im (fun b xs q => ?_) h1.1
    obtain ⟨q1, q2⟩ := mask_some q
    rw [mask_out]
    · exact q2
    · intro z
      exact (S'.lst b z).ne q2 rfl
instance {i : Nat} [he : STt T tt pt] : STt T (tBorT i tt) (pBorT i pt) where
  run := fun {c L H σ ρ P Q} s h k => by
    obtain ⟨ds, hi, h⟩ := h
    obtain ⟨L', hL, sb⟩ := s.bor hi
    exact he.run sb h k
instance {i : Nat} {p : PA1} [he : SF T te p] : SF T (tBorE i te) (pBorF i p) where
  run := fun {c L H σ ρ P Q} s h k => by
    obtain ⟨ds, hi, h⟩ := h
    obtain ⟨L', hL, sb⟩ := s.bor hi
    refine he.run sb h fun b xs ds' H' st n e r h1 => k b xs ds' H' st n e ?_ h1.2
    have S' := s.step st
    refine r.im (fun b' ys q => ?_) h1.1
    obtain ⟨q1, q2⟩ := mask_some q
    rw [mask_out]
    · exact q2
    · intro z
      rcases List.mem_cons.mp z with rfl | z
      · exact q1 List.mem_cons_self
      · exact (S'.lst b' z).ne q2 rfl
/-! the same for a dict -/
def tBorD (i : Nat) (te : TE) : TE := te
def tBorDT (i : Nat) (te : TT) : TT := te
theorem pe_borD (i : Nat) {X : Cx} {e : Expr} (h : PE X e te) : PE X e (tBorD i te) := h
theorem pt_borD (i : Nat) {X : Cx} {e : Expr} (h : PT X e tt) : PT X e (tBorDT i tt) := h
@[reducible, simp] def pBorD (i : Nat) (pe : PE1) : PE1 := fun ρ P => ∃ ks vs, ρ[i]? = some (some (.od ks vs)) ∧ pe (ρ.set i (some (.v (.dct ks vs)))) fun d => d.im = true ∧ P d
@[reducible, simp] def pBorDT (i : Nat) (pt : PB1) : PB1 := fun ρ P => ∃ ks vs, ρ[i]? = some (some (.od ks vs)) ∧ pt (ρ.set i (some (.v (.dct ks vs)))) P
@[reducible, simp] def pBorDF (i : Nat) (pe : PA1) : PA1 := fun ρ P => ∃ ks vs, ρ[i]? = some (some (.od ks vs)) ∧ pe (ρ.set i (some (.v (.dct ks vs)))) fun d => D.imA d = true ∧ P d
instance {i : Nat} [he : SE T te pe] : SE T (tBorD i te) (pBorD i pe) where
  run := fun {c L H σ ρ P Q} s h k => by
    obtain ⟨ks, vs, hi, h⟩ := h
    obtain ⟨L', hL, sb⟩ := s.bord hi
    refine he.run sb h fun v d H' st r h1 => k v d H' st ?_ h1.2
    have S' := s.step st
    refine r.im (fun b xs q => ?_) h1.1
    obtain ⟨q1, q2⟩ := mask_some q
    rw [mask_out]
    · exact q2
    · exact fun z => (S'.lst b z).ne q2 rfl
instance {i : Nat} [he : STt T tt pt] : STt T (tBorDT i tt) (pBorDT i pt) where
  run := fun {c L H σ ρ P Q} s h k => by
    obtain ⟨ks, vs, hi, h⟩ := h
    obtain ⟨L', hL, sb⟩ := s.bord hi
    exact he.run sb h k
/-! ### plain statements -/
@[reducible, simp] def qNext : PS1 := fun ρ F => F.nx ρ
instance : SS T tNext qNext where
  run := fun s e f h o => o.nx _ _ _ _ s e f h
@[reducible, simp] def qSeq (q q' : PS1) : PS1 := fun ρ F => q ρ { F with nx := fun ρ' => q' ρ' F }
instance [h1 : SS T t q] [h2 : SS T u q'] : SS T (tSeq t u) (qSeq q q') where
  run := fun {c L H H0 σ ρ F D} s e f h o => h1.run (D := { D with nx := u D }) s e f h ⟨fun L' H' σ' ρ' s' e' f' h' => h2.run s' e' f' h' o, o.rt, o.bk, o.ct⟩
@[reducible, simp] def qNever : PS1 := fun _ _ => False
instance : SS T tNever qNever where
  run := fun s e f h o => h.elim
@[reducible, simp] def qBreak : PS1 := fun ρ F => F.bk ρ
instance : SS T tBreak qBreak where
  run := fun s e f h o => o.bk _ _ _ _ s e f h
@[reducible, simp] def qCont : PS1 := fun ρ F => F.ct ρ
instance : SS T tCont qCont where
  run := fun s e f h o => o.ct _ _ _ _ s e f h
@[reducible, simp] def qRet (pe : PE1) : PS1 := fun ρ F => pe ρ F.rt
instance [he : SE T te pe] : SS T (tRet te) (qRet pe) where
  run := fun s e f h o => he.run s h fun v d H' st r h1 => o.rt v d H' (e.trans st) (r.mono (mask_sub fun b hb => List.mem_append_right _ hb)) h1
/-- return x, x a list of the def's own -/
def tVarO (i : Nat) : TE := tVar i
theorem pvo (i : Nat) {X : Cx} {x : Str} {pos : Pos} (h : PE X (.Name x pos) (tVar i)) : PE X (.Name x pos) (tVarO i) := h
@[reducible, simp] def qRetO (i : Nat) : PS1 := fun ρ F => ∃ ds, ρ[i]? = some (some (.o ds)) ∧ F.rt (.lst ds)
instance {i : Nat} : SS T (tRet (tVarO i)) (qRetO i) where
  run := fun s e f h o => by
    obtain ⟨ds, hi, h⟩ := h
    obtain ⟨a, xs, g1, g2, g3, g4⟩ := s.own i ds hi
    exact ⟨.ref a, g1, o.rt _ _ _ e (.lst (by rw [mask_out (s.LM a g2)]; exact g3) (g4.mono (mask_sub fun b hb => List.mem_append_right _ hb))) h⟩
@[reducible, simp] def qRetN : PS1 := fun _ F => F.rt .non
instance : SS T tRetN qRetN where
  run := fun s e f h o => o.rt _ _ _ e .non h
@[reducible, simp] def qIf (pt : PB1) (q q' : PS1) : PS1 := fun ρ F => pt ρ fun b => if b = true then q ρ F else q' ρ F
instance [h0 : STt T tt pt] [h1 : SS T t q] [h2 : SS T u q'] : SS T (tIfS tt t u) (qIf pt q q') where
  run := fun s e f h o => h0.run s h fun b H' st h' => by
    cases b with
    | true => exact iteT (h1.run (s.step st) (e.trans st) f h' o)
    | false => exact iteF (h2.run (s.step st) (e.trans st) f (by simpa using h') o)
@[reducible, simp] def qDrop (pe : PE1) : PS1 := fun ρ F => pe ρ fun _ => F.nx ρ
instance [he : SE T te pe] : SS T (tDrop te) (qDrop pe) where
  run := fun s e f h o => he.run s h fun v d H' st r h1 => o.nx _ _ _ _ (s.step st) (e.trans st) f h1
/-! ### targets -/
/-- sl: the slots that may change -/
class SG (T : Tx) (g : TG) (q : outParam (D → En → (En → Prop) → Prop)) (sl : outParam (List Nat)) : Prop where
  run : ∀ {c : Cfg} {L : List Addr} {H : Hp} {σ : L2.St} {ρ : En} {x : V} {d : D} {P : En → Prop} {Q : L2.St → Hp → Prop}, SOk T c L H σ ρ → Rp T (mask (L ++ c.M) H) x d → q d ρ P →
    (∀ σ' ρ', SOk T c L H σ' ρ' → P ρ' → (∀ vs : List Nat, (∀ i ∈ sl, i ∈ vs) → wipe σ' vs = wipe σ vs) → Q σ' H) → g x σ H Q
class SGs (T : Tx) (g : TGs) (q : outParam (List D → En → (En → Prop) → Prop)) (sl : outParam (List Nat)) : Prop where
  run : ∀ {c : Cfg} {L : List Addr} {H : Hp} {σ : L2.St} {ρ : En} {xs : List V} {ds : List D} {P : En → Prop} {Q : L2.St → Hp → Prop}, SOk T c L H σ ρ → RpA T (mask (L ++ c.M) H) xs ds → q ds ρ P →
    (∀ σ' ρ', SOk T c L H σ' ρ' → P ρ' → (∀ vs : List Nat, (∀ i ∈ sl, i ∈ vs) → wipe σ' vs = wipe σ vs) → Q σ' H) → g xs σ H Q
@[reducible, simp] def gV (i : Nat) : D → En → (En → Prop) → Prop := fun d ρ P => P (ρ.set i (some (.v d)))
theorem wipe_in {σ : L2.St} {i : Nat} {v : Option V} : ∀ {vs : List Nat}, i ∈ vs → wipe (σ.set i v) vs = wipe σ vs
  | j :: vs, h => by
    unfold wipe
    by_cases e : i ∈ vs
    · rw [wipe_in e]
    · rcases List.mem_cons.mp h with rfl | h
      · have : ∀ (ws : List Nat), i ∉ ws → wipe (σ.set i v) ws = (wipe σ ws).set i v := fun ws => by
          induction ws with
          | nil => intro _; rfl
          | cons w ws ih =>
            intro hw
            simp only [List.mem_cons, not_or] at hw
            unfold wipe
            rw [ih hw.2, List.set_comm _ _ hw.1]
        rw [this vs e, List.set_set]
      · exact absurd h e
instance {i : Nat} : SG T (gName i) (gV i) [i] where
  run := fun s r h k => k _ _ (s.setv r) h fun vs hv => wipe_in (hv i (by simp))
@[reducible, simp] def gsNil : List D → En → (En → Prop) → Prop := fun ds ρ P => ds = [] ∧ P ρ
@[reducible, simp] def gsCons (g : D → En → (En → Prop) → Prop) (gs : List D → En → (En → Prop) → Prop) : List D → En → (En → Prop) → Prop := fun ds ρ P => ∃ d r, ds = d :: r ∧ g d ρ fun ρ' => gs r ρ' P
instance : SGs T gNil gsNil [] where
  run := fun s r h k => by
    obtain ⟨rfl, h⟩ := h
    cases r
    exact ⟨rfl, k _ _ s h fun _ _ => rfl⟩
instance {g : TG} {gs : TGs} {p : D → En → (En → Prop) → Prop} {ps : List D → En → (En → Prop) → Prop} {sl sl' : List Nat} [h1 : SG T g p sl] [h2 : SGs T gs ps sl'] : SGs T (gCons g gs) (gsCons p ps) (sl ++ sl') where
  run := fun s r h k => by
    obtain ⟨d, rr, rfl, h⟩ := h
    cases r with
    | cons r1 r2 => exact ⟨_, _, rfl, h1.run s r1 h fun σ' ρ' s' h' w1 => h2.run s' r2 h' fun σ2 ρ2 s2 q2 w2 => k σ2 ρ2 s2 q2 fun vs hv => (w2 vs fun i hi => hv i (List.mem_append_right _ hi)).trans (w1 vs fun i hi => hv i (List.mem_append_left _ hi))⟩
@[reducible, simp] def gTp (n : Nat) (gs : List D → En → (En → Prop) → Prop) : D → En → (En → Prop) → Prop := fun d ρ P => ∃ ds, d = .tup ds ∧ ds.length = n ∧ gs ds ρ P
instance {gs : TGs} {n : Nat} {ps : List D → En → (En → Prop) → Prop} {sl : List Nat} [h2 : SGs T gs ps sl] : SG T (gTup K n gs) (gTp n ps) sl where
  run := fun s r h k => by
    obtain ⟨ds, rfl, hn, h⟩ := h
    cases r with
    | @tup a xs _ h3 r3 => exact ⟨a, xs, rfl, SqT.of (mask_some h3).2, by rw [r3.length]; exact hn, h2.run s r3 h k⟩
/-! ### assignments -/
@[reducible, simp] def qAsg (pe : PE1) (g : D → En → (En → Prop) → Prop) : PS1 := fun ρ F => pe ρ fun d => g d ρ F.nx
instance {g : TG} {p : D → En → (En → Prop) → Prop} {sl : List Nat} [he : SE T te pe] [hg : SG T g p sl] : SS T (tAsg te g) (qAsg pe p) where
  run := fun s e f h o => he.run s h fun v d H' st r h1 => hg.run (s.step st) r h1 fun σ' ρ' s' h' _ => o.nx _ _ _ _ s' (e.trans st) f h'
/-- x = [..], a list of the def's own -/
def gOwn (i : Nat) : TG := gName i
theorem pg_own {X : Cx} {i : Nat} {x : Str} {pos : Pos} (h : PG X (.Name x pos) (gName i)) : PG X (.Name x pos) (gOwn i) := h
theorem ps_own {X : Cx} {i : Nat} {st : Stmt} (h : PS X st (tAsg te (gName i))) : PS X st (tAsg te (gOwn i)) := h
@[reducible, simp] def qOwn (i : Nat) (p : PA1) : PS1 := fun ρ F => p ρ fun ds => F.nx (ρ.set i (some (.o ds)))
instance {i : Nat} {p : PA1} [he : SF T te p] : SS T (tAsg te (gOwn i)) (qOwn i p) where
  run := fun s e f h o => he.run s h fun a xs ds H' st n ea r h1 => by
    refine o.nx _ _ _ _ (s.seto (i := i) st n ea r) (e.trans st) (fun b hb => ?_) h1
    rcases List.mem_cons.mp hb with rfl | hb
    · exact Stp.new_none s e n
    · exact f b hb
/-- a, b = x, y -/
@[reducible, simp] def qPar (i j : Nat) (p : PA1) : PS1 := fun ρ F => p ρ fun ds => ∃ d d', ds = [d, d'] ∧ F.nx ((ρ.set i (some (.v d))).set j (some (.v d')))
instance {i j : Nat} {ta : TA} {p : PA1} [ha : SA T ta p] : SS T (tPar i j ta) (qPar i j p) where
  run := fun s e f h o => ha.run s h fun vs ds H' st r h1 => by
    obtain ⟨d, d', rfl, h1⟩ := h1
    cases r with
    | cons r1 r2 => cases r2 with
      | cons r3 r4 => cases r4; exact ⟨_, _, rfl, o.nx _ _ _ _ (((s.step st).setv r1).setv r3) (e.trans st) f h1⟩
/-- the first | the second a list of the def's own -/
def tParA (i j : Nat) (ta : TA) : TS := tPar i j ta
def tParB (i j : Nat) (ta : TA) : TS := tPar i j ta
theorem ps_parA {X : Cx} {i j : Nat} {st : Stmt} {ta : TA} (h : PS X st (tPar i j ta)) : PS X st (tParA i j ta) := h
theorem ps_parB {X : Cx} {i j : Nat} {st : Stmt} {ta : TA} (h : PS X st (tPar i j ta)) : PS X st (tParB i j ta) := h
@[reducible, simp] def qParA (i j : Nat) (p : PA1) (pb : PE1) : PS1 := fun ρ F => p ρ fun ds => pb ρ fun d => d.im = true ∧ F.nx ((ρ.set i (some (.o ds))).set j (some (.v d)))
theorem Rp.keepNew {c : Cfg} {L : List Addr} {H H' : Hp} {a : Addr} {xs : List V} {ds : List D} {σ : L2.St} {ρ : En} (s : SOk T c L H σ ρ) (st : Stp c H H') (r : RpA T (mask (a :: (L ++ c.M)) H) xs ds) : RpA T (mask (a :: (L ++ c.M)) H') xs ds := r.mono fun b o q => by
  obtain ⟨q1, q2⟩ := mask_some q
  rw [mask_out q1]
  exact st.keep b o (s.ok.out fun z => q1 (List.mem_cons_of_mem _ (List.mem_append_right _ z))) q2
instance {i j : Nat} {p : PA1} [ha : SF T te p] [hb : SE T tb pb] : SS T (tParA i j (tCons te (tCons tb tNil))) (qParA i j p pb) where
  run := fun {c L H H0 σ ρ F D} s e f h o => ha.run s h fun a xs ds H' st n ea r h1 => hb.run (s.step st) h1 fun v d H2 st2 r2 h2 => by
    have nd : c.nd a := (s.step st).ok.out fun z => s.fresh n (List.mem_append_right _ z)
    have S := s.seto (i := i) (st.trans st2) n (st2.keep a _ nd ea) (Rp.keepNew (s.step st) st2 r)
    refine ⟨.ref a, v, rfl, o.nx _ _ _ _ (S.setv (r2.im (fun b ys q => ?_) h2.1)) (e.trans (st.trans st2)) (fun b hb => ?_) h2.2⟩
    · rw [mask_out]
      · exact (mask_some q).2
      · exact fun z => (S.lst b z).ne (mask_some q).2 rfl
    · rcases List.mem_cons.mp hb with rfl | hb
      · exact Stp.new_none s e n
      · exact f b hb
@[reducible, simp] def qParB (i j : Nat) (pa : PE1) (p : PA1) : PS1 := fun ρ F => pa ρ fun d => p ρ fun ds => i ≠ j ∧ F.nx ((ρ.set j (some (.o ds))).set i (some (.v d)))
instance {i j : Nat} {p : PA1} [ha : SE T te pe] [hb : SF T tb p] : SS T (tParB i j (tCons te (tCons tb tNil))) (qParB i j pe p) where
  run := fun {c L H H0 σ ρ F D} s e f h o => ha.run s h fun v d H1 st r h1 => hb.run (s.step st) h1 fun a xs ds H2 st2 n ea r2 h2 => by
    have S := (s.step st).seto (i := j) st2 n ea r2
    have carry : Same (mask (L ++ c.M) H1) (mask ((a :: L) ++ c.M) H2) := fun b o q => by
      obtain ⟨q1, q2⟩ := mask_some q
      have hb : b ≠ a := fun z => by rw [z, n] at q2; cases q2
      rw [mask_out (by rw [List.cons_append]; simp only [List.mem_cons, not_or]; exact ⟨hb, q1⟩)]
      exact st2.keep b o (s.ok.out fun z => q1 (List.mem_append_right _ z)) q2
    refine ⟨v, .ref a, rfl, ?_⟩
    have S2 := S.setv (i := i) (r.mono carry)
    have e2 : (σ.set i (some v)).set j (some (V.ref a)) = (σ.set j (some (V.ref a))).set i (some v) := List.set_comm _ _ h2.1
    rw [e2]
    refine o.nx _ _ _ _ S2 (e.trans (st.trans st2)) (fun b hb => ?_) h2.2
    rcases List.mem_cons.mp hb with rfl | hb
    · exact Stp.new_none s (e) (fresh_back (s.step st) st n)
    · exact f b hb
/-- x += e, ints -/
@[reducible, simp] def qAug (i : Nat) (f : Int → Int → Int) (pe : PE1) : PS1 := fun ρ F => ∃ a, ρ[i]? = some (some (.v (.int a))) ∧ pe ρ fun d => ∃ b, d = .int b ∧ F.nx (ρ.set i (some (.v (.int (f a b)))))
instance {i : Nat} {f : Int → Int → Int} [he : SE T te pe] : SS T (tAug i te (ipI f)) (qAug i f pe) where
  run := fun s e f' h o => by
    obtain ⟨a, hi, h⟩ := h
    obtain ⟨v, g1, g2⟩ := s.val i _ hi
    cases g2
    exact ⟨_, g1, he.run s h fun v d H' st r h1 => by
      obtain ⟨b, rfl, h1⟩ := h1
      cases r
      exact ⟨a, b, rfl, rfl, o.nx _ _ _ _ ((s.step st).setv (.int _)) (e.trans st) f' h1⟩⟩
/-- xs.append(e) -/
@[reducible, simp] def qApp (i : Nat) (pe : PE1) : PS1 := fun ρ F => ∃ ds, ρ[i]? = some (some (.o ds)) ∧ pe ρ fun d => ds.length < 10000 ∧ F.nx (ρ.set i (some (.o (ds ++ [d]))))
instance (priority := high) {i : Nat} [he : SE T te pe] : SS T (tDrop (tBM K "list" rAppend (tVar i) (tCons te tNil))) (qApp i pe) where
  run := fun {c L H H0 σ ρ F D} s e f h o => by
    obtain ⟨ds, hi, h⟩ := h
    obtain ⟨a, xs, g1, g2, g3, g4⟩ := s.own i ds hi
    refine ⟨_, g1, .inl ⟨rfl, xs, SqL.of g3⟩, he.run s h fun v d H' st r h1 => ?_⟩
    have S := s.step st
    have g3' := st.keep a _ (s.nodr g2) g3
    refine ⟨a, xs, v, rfl, rfl, g3', by rw [g4.length]; exact Nat.lt_of_lt_of_le h1.1 (by decide), ?_⟩
    exact o.nx _ _ _ _ (S.chg hi g1 ((g4.mono (st.mask s.ok)).append (.cons r .nil))) (Stp.chg S (e.trans st) f g2) f h1.2
/-- xs[k] = e -/
@[reducible, simp] def qSet (i : Nat) (pi pe : PE1) : PS1 := fun ρ F => pe ρ fun d => ∃ ds, ρ[i]? = some (some (.o ds)) ∧ pi ρ fun z => ∃ (n : Nat), z = .int n ∧ n < ds.length ∧ F.nx (ρ.set i (some (.o (ds.set n d))))
instance (priority := high) {i : Nat} {ti : TE} {pi : PE1} [he : SE T te pe] [hx : SE T ti pi] : SS T (tAsg te (gSub (tVar i) ti rSetL)) (qSet i pi pe) where
  run := fun {c L H H0 σ ρ F D} s e f h o => he.run s h fun v d H' st r h1 => by
    have S := s.step st
    obtain ⟨ds, hi, h1⟩ := h1
    obtain ⟨a, xs, g1, g2, g3, g4⟩ := S.own i ds hi
    refine ⟨_, g1, hx.run S h1 fun z dz H2 st2 r2 h2 => ?_⟩
    obtain ⟨n, rfl, hn, h2⟩ := h2
    cases r2
    have S2 := S.step st2
    have g4' := g4.mono (st2.mask s.ok)
    refine ⟨a, xs, n, n, rfl, rfl, st2.keep a _ (s.nodr g2) g3, ?_, ?_⟩
    · unfold ixN
      rw [if_pos (by omega), if_pos (by rw [g4.length]; omega)]
      simp
    · exact o.nx _ _ _ _ (S2.chg hi g1 (g4'.set (r.mono (st2.mask s.ok)) n)) (Stp.chg S2 (e.trans (st.trans st2)) f g2) f h2
/-! ### while -/
@[reducible, simp] def qWhile (pt : PB1) (q : PS1) : PS1 := fun ρ F => ∃ I : Nat → En → Prop, (∃ m, I m ρ) ∧ ∀ m ρ', I m ρ' → pt ρ' fun b => if b = true then q ρ' { nx := fun ρ'' => ∃ m', m' < m ∧ I m' ρ'', ct := fun ρ'' => ∃ m', m' < m ∧ I m' ρ'', bk := F.nx, rt := F.rt } else F.nx ρ'
instance [h0 : STt T tt pt] [h1 : SS T t q] : SS T (tWhile tt t) (qWhile pt q) where
  run := fun {c L H H0 σ ρ F D} s e f h o => by
    obtain ⟨I, ⟨m, h0'⟩, hI⟩ := h
    refine ⟨fun m σ' H' => ∃ L' ρ', SOk T c L' H' σ' ρ' ∧ Stp c H0 H' ∧ (∀ a ∈ L', H0 a = none) ∧ I m ρ', ⟨m, L, ρ, s, e, f, h0'⟩, ?_⟩
    rintro m σ' H' ⟨L', ρ', s', e', f', h'⟩
    refine h0.run s' (hI m ρ' h') fun b H2 st2 h2 => ?_
    cases b with
    | false => exact iteF (o.nx _ _ _ _ (s'.step st2) (e'.trans st2) f' (by simpa using h2))
    | true =>
      refine iteT ⟨fun σ'' H'' => ∃ L'' ρ'', SOk T c L'' H'' σ'' ρ'' ∧ Stp c H0 H'' ∧ (∀ a ∈ L'', H0 a = none) ∧ ∃ m', m' < m ∧ I m' ρ'', ?_, ?_⟩
      · rintro σ'' H'' ⟨L'', ρ'', s'', e'', f'', m', hm, h''⟩
        exact ⟨m', hm, L'', ρ'', s'', e'', f'', h''⟩
      · exact h1.run (s'.step st2) (e'.trans st2) f' h2 ⟨fun L3 H3 σ3 ρ3 s3 e3 f3 h3 => ⟨L3, ρ3, s3, e3, f3, h3⟩, o.rt, o.nx, fun L3 H3 σ3 ρ3 s3 e3 f3 h3 => ⟨L3, ρ3, s3, e3, f3, h3⟩⟩
/-! ### what is walked -/
/-- what holds through a loop or a comprehension that began at H1 with the lists L -/
structure Thr (T : Tx) (c : Cfg) (L : List Addr) (H1 : Hp) (L' : List Addr) (H : Hp) : Prop where
  st : Stp c (mask L H1) H
  fr : ∀ a ∈ L', mask L H1 a = none
  ok : ∀ a ∈ L' ++ c.M, NT H a
  LM : ∀ a ∈ L', a ∉ c.M
theorem Thr.mono {c : Cfg} (ok : c.Ok) {L L' : List Addr} {H1 H : Hp} (t : Thr T c L H1 L' H) : Same (mask (L ++ c.M) H1) (mask (L' ++ c.M) H) := fun b o q => by
  obtain ⟨q1, q2⟩ := mask_some q
  have n1 : b ∉ L := fun z => q1 (List.mem_append_left _ z)
  have n2 : b ∉ c.M := fun z => q1 (List.mem_append_right _ z)
  have q3 : mask L H1 b = some o := by rw [mask_out n1]; exact q2
  have n3 : b ∉ L' := fun z => by rw [t.fr b z] at q3; cases q3
  rw [mask_out (fun z => (List.mem_append.mp z).elim n3 n2)]
  exact t.st.keep b o (ok.out n2) q3
class SI (T : Tx) (wi : TI) (p : outParam PA1) : Prop where
  run : ∀ {c : Cfg} {L : List Addr} {H : Hp} {σ : L2.St} {ρ : En} {P : List D → Prop} {R : It → Hp → Prop}, SOk T c L H σ ρ → p ρ P →
    (∀ (J : It) (n : Nat) (G : Hp → Prop) (Y : Nat → Hp → V → Hp → Prop) (H1 : Hp) (items : List D), Walk J n G Y → items.length = n → Stp c H H1 → P items →
      (∀ L' H', Thr T c L H1 L' H' → G H') →
      (∀ i x L' H' H'', i < n → Thr T c L H1 L' H' → Y i H' x H'' → ∃ d, items[i]? = some d ∧ Stp c H' H'' ∧ Rp T (mask (L' ++ c.M) H'') x d) → R J H1) → wi σ H R
/-- over a list or a tuple -/
@[reducible, simp] def iL (pe : PE1) : PA1 := fun ρ P => pe ρ fun d => ∃ ds, d = .lst ds ∧ P ds
@[reducible, simp] def iT (pe : PE1) : PA1 := fun ρ P => pe ρ fun d => ∃ ds, d = .tup ds ∧ P ds
@[reducible, simp] def iLT (pe : PE1) : PA1 := fun ρ P => pe ρ fun d => ∃ ds, (d = .lst ds ∨ d = .tup ds) ∧ P ds
theorem Thr.at_ {c : Cfg} (ok : c.Ok) {L L' : List Addr} {H1 H : Hp} (t : Thr T c L H1 L' H) {a : Addr} {o : HO} (h : mask (L ++ c.M) H1 a = some o) : H a = some o := (mask_some (t.mono ok a o h)).2
theorem si_lst {c : Cfg} {L : List Addr} {H1 : Hp} {a : Addr} {xs : List V} {ds : List D} (ok : c.Ok) (h : mask (L ++ c.M) H1 a = some (.lst xs)) (r : RpA T (mask (L ++ c.M) H1) xs ds) :
    (∀ L' H', Thr T c L H1 L' H' → SqL K H' a xs) ∧ ∀ i x L' H' H'', i < xs.length → Thr T c L H1 L' H' → YAt xs i H' x H'' → ∃ d, ds[i]? = some d ∧ Stp c H' H'' ∧ Rp T (mask (L' ++ c.M) H'') x d :=
  ⟨fun L' H' t => SqL.of (t.at_ ok h), fun i x L' H' H'' hi t ⟨e, hx⟩ => by
    subst e
    obtain ⟨d, h1, h2⟩ := (r.mono (t.mono ok)).get hx
    exact ⟨d, h1, Stp.refl _ _, h2⟩⟩
theorem si_tup {c : Cfg} {L : List Addr} {H1 : Hp} {a : Addr} {xs : List V} {ds : List D} (ok : c.Ok) (h : mask (L ++ c.M) H1 a = some (.tup xs)) (r : RpA T (mask (L ++ c.M) H1) xs ds) :
    (∀ L' H', Thr T c L H1 L' H' → SqT K H' a xs) ∧ ∀ i x L' H' H'', i < xs.length → Thr T c L H1 L' H' → YAt xs i H' x H'' → ∃ d, ds[i]? = some d ∧ Stp c H' H'' ∧ Rp T (mask (L' ++ c.M) H'') x d :=
  ⟨fun L' H' t => SqT.of (t.at_ ok h), fun i x L' H' H'' hi t ⟨e, hx⟩ => by
    subst e
    obtain ⟨d, h1, h2⟩ := (r.mono (t.mono ok)).get hx
    exact ⟨d, h1, Stp.refl _ _, h2⟩⟩
instance [he : SE T te pe] : SI T (iList K te) (iL pe) where
  run := fun s h k => he.run s h fun v d H1 st r h1 => by
    obtain ⟨ds, rfl, h1⟩ := h1
    cases r with
    | @lst a xs _ h2 r2 =>
      have S := si_lst (K := K) s.ok h2 r2
      exact ⟨a, rfl, ⟨xs, SqL.of (mask_some h2).2⟩, k _ xs.length _ _ H1 ds (walk_list (K := K) (a := a) (xs := xs)) r2.length.symm st h1 S.1 S.2⟩
instance [he : SE T te pe] : SI T (iTup K te) (iT pe) where
  run := fun s h k => he.run s h fun v d H1 st r h1 => by
    obtain ⟨ds, rfl, h1⟩ := h1
    cases r with
    | @tup a xs _ h2 r2 =>
      have S := si_tup (K := K) s.ok h2 r2
      exact ⟨a, rfl, ⟨xs, SqT.of (mask_some h2).2⟩, k _ xs.length _ _ H1 ds (walk_tup (K := K) (a := a) (xs := xs)) r2.length.symm st h1 S.1 S.2⟩
/-- either -/
def iSeq (K : PySem.W.Frag) (tl : TE) : TI := fun σ H R => tl σ H fun x H1 => ∃ a, x = .ref a ∧ (((∃ xs, SqL K H1 a xs) ∧ R (Itl K a) H1) ∨ ((∃ xs, SqT K H1 a xs) ∧ R (Itt K a) H1))
theorem pi_seq {X : Cx} {tg l : Expr} {tl : TE} (hl : PE X l tl) : PI X tg l (iSeq X.K tl) := by
  refine ⟨fun pins s σ H R I h => ?_⟩
  refine thn (hl.run pins s σ H _ I h) fun v s1 ⟨x, H1, I1, r1, q1⟩ => ?_
  obtain ⟨a, e, q1⟩ := q1
  subst e
  cases r1
  rcases q1 with ⟨⟨xs, hq⟩, q⟩ | ⟨⟨xs, hq⟩, q⟩
  · obtain ⟨its, rv, p, hz⟩ := I1.list hq
    refine wpAny_pyIter_list p.isList ?_
    refine ⟨s1.heap.objs.size, [s1.heap.objs.size], _, _, H1, rfl, I1.kept (t' := s1.toks) fun b o e => Heap.get?_push_of_some _ e, turn_list a _, ⟨_, Heap.get?_push_size _ rfl, rfl, rfl⟩, fun b hb => ?_, q⟩
    have e : b = s1.heap.objs.size := by simpa using hb
    subst e
    exact I1.fpOk (Nat.le_refl _) (I1.hok.fresh (Nat.le_refl _))
  · obtain ⟨its, rv, p, hz⟩ := I1.tuple hq
    refine wpAny_pyIter_tuple (show s1.heap.IsTuple a its.toArray from p) ?_
    refine ⟨s1.heap.objs.size, [s1.heap.objs.size], _, _, H1, rfl, I1.kept (t' := s1.toks) fun b o e => Heap.get?_push_of_some _ e, turn_tuple a _, ⟨_, Heap.get?_push_size _ rfl, rfl, rfl⟩, fun b hb => ?_, q⟩
    have e : b = s1.heap.objs.size := by simpa using hb
    subst e
    exact I1.fpOk (Nat.le_refl _) (I1.hok.fresh (Nat.le_refl _))
instance [he : SE T te pe] : SI T (iSeq K te) (iLT pe) where
  run := fun s h k => he.run s h fun v d H1 st r h1 => by
    obtain ⟨ds, hd, h1⟩ := h1
    rcases hd with rfl | rfl
    · cases r with
      | @lst a xs _ h2 r2 =>
        have S := si_lst (K := K) s.ok h2 r2
        exact ⟨a, rfl, .inl ⟨⟨xs, SqL.of (mask_some h2).2⟩, k _ xs.length _ _ H1 ds (walk_list (K := K) (a := a) (xs := xs)) r2.length.symm st h1 S.1 S.2⟩⟩
    · cases r with
      | @tup a xs _ h2 r2 =>
        have S := si_tup (K := K) s.ok h2 r2
        exact ⟨a, rfl, .inr ⟨⟨xs, SqT.of (mask_some h2).2⟩, k _ xs.length _ _ H1 ds (walk_tup (K := K) (a := a) (xs := xs)) r2.length.symm st h1 S.1 S.2⟩⟩
/-- range -/
def rangeD (j : Nat) : List D := (List.range j).map fun (k : Nat) => D.int (k : Int)
theorem rangeD_len (j : Nat) : (rangeD j).length = j := by simp [rangeD]
theorem rangeD_get {j i : Nat} (h : i < j) : (rangeD j)[i]? = some (.int (i : Int)) := by simp [rangeD, h]
theorem rangeD_some {j i : Nat} {d : D} (h : (rangeD j)[i]? = some d) : i < j ∧ d = .int (i : Int) := by
  have hi : i < (rangeD j).length := (List.getElem?_eq_some_iff.mp h).1
  rw [rangeD_len] at hi
  rw [rangeD_get hi] at h
  exact ⟨hi, (Option.some.inj h).symm⟩
@[reducible, simp] def iR1 (p : PA1) : PA1 := fun ρ P => p ρ fun ds => ∃ j : Int, ds = [.int j] ∧ j ≤ 100000 ∧ -100000 ≤ j ∧ P (rangeD j.toNat)
instance {ta : TA} {p : PA1} [ha : SA T ta p] : SI T (iRng1 ta) (iR1 p) where
  run := fun s h k => ha.run s h fun vs ds H1 st r h1 => by
    obtain ⟨j, rfl, h2, h3, h1⟩ := h1
    cases r with
    | cons r1 r2 =>
      cases r1; cases r2
      refine ⟨j, rfl, by omega, by omega, k _ j.toNat _ _ H1 _ (walk_range (lo := 0) (n := j.toNat)) (rangeD_len _) st h1 (fun _ _ _ => trivial) fun i x L' H' H'' hi t ⟨e, hx⟩ => ?_⟩
      subst e
      refine ⟨.int (i : Int), rangeD_get hi, Stp.refl _ _, ?_⟩
      have e : x = V.int (i : Int) := by rw [hx]; show V.int (0 + (i : Int)) = _; rw [Int.zero_add]
      rw [e]
      exact .int _
/-! ### for -/
@[reducible, simp] def qFor (pi : PA1) (g : D → En → (En → Prop) → Prop) (q : PS1) : PS1 := fun ρ F => pi ρ fun items => ∃ I : Nat → En → Prop, I 0 ρ ∧
  (∀ i d ρ', items[i]? = some d → I i ρ' → g d ρ' fun ρ'' => q ρ'' { nx := I (i + 1), ct := I (i + 1), bk := F.nx, rt := F.rt }) ∧ ∀ ρ', I items.length ρ' → F.nx ρ'
instance {wi : TI} {g : TG} {pi : PA1} {p : D → En → (En → Prop) → Prop} {sl : List Nat} [h0 : SI T wi pi] [hg : SG T g p sl] [h1 : SS T t q] : SS T (tFor wi g t) (qFor pi p q) where
  run := fun {c L H H0 σ ρ F D} s e f h o => h0.run s h fun J n G Y H1 items w hn st h2 hG hY => by
    obtain ⟨I, i0, it, ie⟩ := h2
    have S := s.step st
    have ref0 : Stp c (mask L H1) H1 := .same (mask_le L H1)
    have fr0 : ∀ a ∈ L, mask L H1 a = none := fun a ha => mask_in ha
    have back : ∀ {H' : Hp}, Stp c (mask L H1) H' → Stp c H0 H' := fun {H'} z => by
      refine ⟨fun b ob nb q => z.keep b ob nb ?_, fun a ha q => z.dr a ha ?_⟩
      · rw [mask_out fun y => by rw [f b y] at q; cases q]
        exact (e.trans st).keep b ob nb q
      · obtain ⟨p, ns, e1, e2, e3, e4⟩ := (e.trans st).dr a ha q
        have m1 := fun z => s.LM a.1 z (s.ok.drM a ha).1
        have m2 := fun z => s.LM a.2 z (s.ok.drM a ha).2
        exact ⟨p, ns, by rw [mask_out m1]; exact e1, e2, by rw [mask_out m2]; exact e3, e4⟩
    have backf : ∀ {b : Addr}, mask L H1 b = none → H0 b = none ∨ ∃ a, c.dr = some a ∧ a.1 = b := fun {b} z => by
      by_cases hb : b ∈ L
      · exact .inl (f b hb)
      · rw [mask_out hb] at z
        exact .inl (Stp.new_none S (e.trans st) z)
    have backn : ∀ {L' : List Addr}, (∀ a ∈ L', mask L H1 a = none) → ∀ a ∈ L', H0 a = none := fun z a ha => by
      by_cases hb : a ∈ L
      · exact f a hb
      · have q := z a ha
        rw [mask_out hb] at q
        exact Stp.new_none S (e.trans st) q
    have fin : ∀ (P : En → Prop) (σ' : L2.St) (H' : Hp), (∃ L' ρ', SOk T c L' H' σ' ρ' ∧ Stp c (mask L H1) H' ∧ (∀ a ∈ L', mask L H1 a = none) ∧ P ρ') → (∃ L' ρ', SOk T c L' H' σ' ρ' ∧ Stp c H0 H' ∧ (∀ a ∈ L', H0 a = none) ∧ P ρ') :=
      fun P σ' H' ⟨L', ρ', s', e', f', q⟩ => ⟨L', ρ', s', back e', backn f', q⟩
    refine for_it w (fun i σ' H' => ∃ L' ρ', SOk T c L' H' σ' ρ' ∧ Stp c (mask L H1) H' ∧ (∀ a ∈ L', mask L H1 a = none) ∧ I i ρ') ⟨L, ρ, S, ref0, fr0, i0⟩ ?_ ?_ ?_
    · rintro i σ' H' _ ⟨L', ρ', s', e', f', _⟩
      exact hG L' H' ⟨e', f', s'.lst, s'.LM⟩
    · rintro i x σ' H' H'' hi ⟨L', ρ', s', e', f', hI⟩ y
      obtain ⟨d, hd, st2, r2⟩ := hY i x L' H' H'' hi ⟨e', f', s'.lst, s'.LM⟩ y
      refine hg.run (s'.step st2) r2 (it i d ρ' hd hI) fun σ2 ρ2 s2 h2 _ => ?_
      refine h1.run (H0 := mask L H1) (F := { nx := I (i + 1), ct := I (i + 1), bk := F.nx, rt := F.rt }) s2 (e'.trans st2) f' h2 ⟨?_, ?_, ?_, ?_⟩
      · exact fun L3 H3 σ3 ρ3 s3 e3 f3 h3 => ⟨L3, ρ3, s3, e3, f3, h3⟩
      · exact fun v d H3 e3 r3 h3 => o.rt v d H3 (back e3) r3 h3
      · exact fun L3 H3 σ3 ρ3 s3 e3 f3 h3 => o.nx _ _ _ _ s3 (back e3) (backn f3) h3
      · exact fun L3 H3 σ3 ρ3 s3 e3 f3 h3 => ⟨L3, ρ3, s3, e3, f3, h3⟩
    · rintro σ' H' ⟨L', ρ', s', e', f', hI⟩
      rw [← hn] at hI
      exact o.nx _ _ _ _ s' (back e') (backn f') (ie ρ' hI)
end
end
end DL
/-! DL4: comprehensions, calls -/
namespace DL
open PySem L2 PyProof.Rows
noncomputable section
section
variable {T : Tx} {K : PySem.W.Frag} {te tb tf : TE} {pe pb pf : PE1} {t u : TS} {q q' : PS1} {tt : TT} {pt : PB1} {ta : TA} {pa : PA1}
/-! ### list comprehensions -/
def wipeK (ρ : En) : List Nat → En
  | [] => ρ
  | v :: vs => (wipeK ρ vs).set v none
@[simp] theorem wipeK_nil (ρ : En) : wipeK ρ [] = ρ := rfl
@[simp] theorem wipeK_cons (ρ : En) (v : Nat) (vs : List Nat) : wipeK ρ (v :: vs) = (wipeK ρ vs).set v none := rfl
theorem wipe_set {σ : L2.St} {i : Nat} : ∀ {vs : List Nat}, i ∈ vs → (wipe σ vs).set i none = wipe σ vs
  | v :: vs, h => by
    by_cases e : i = v
    · subst e
      show ((wipe σ vs).set i none).set i none = (wipe σ vs).set i none
      rw [List.set_set]
    · have h2 : i ∈ vs := (List.mem_cons.mp h).resolve_left e
      show ((wipe σ vs).set v none).set i none = (wipe σ vs).set v none
      rw [List.set_comm _ _ (fun z => e z.symm), wipe_set h2]
theorem wipe_sub {σ : L2.St} {vs : List Nat} : ∀ ws : List Nat, (∀ i ∈ ws, i ∈ vs) → wipe (wipe σ vs) ws = wipe σ vs
  | [], _ => rfl
  | w :: ws, h => by
    show (wipe (wipe σ vs) ws).set w none = wipe σ vs
    rw [wipe_sub ws fun i hi => h i (List.mem_cons_of_mem _ hi), wipe_set (h w List.mem_cons_self)]
theorem wipe_wipe (σ : L2.St) (vs : List Nat) : wipe (wipe σ vs) vs = wipe σ vs := wipe_sub vs fun _ h => h
theorem SOk.wipe {c : Cfg} {L : List Addr} {H : Hp} {σ : L2.St} {ρ : En} (s : SOk T c L H σ ρ) : ∀ vs : List Nat, SOk T c L H (wipe σ vs) (wipeK ρ vs)
  | [] => s
  | v :: vs => (s.wipe vs).forget
theorem SOk.addK {c : Cfg} {L : List Addr} {H H' : Hp} {σ : L2.St} {ρ : En} (s : SOk T c L H σ ρ) {a : Addr} (st : Stp c H H') (n : H a = none) (e : NT H' a) : SOk T c (a :: L) H' σ ρ := by
  have s' := s.step st
  have nL : a ∉ L ++ c.M := s.fresh n
  have carry : Same (mask (L ++ c.M) H) (mask ((a :: L) ++ c.M) H') := fun b o q => by
    obtain ⟨q1, q2⟩ := mask_some q
    have hb : b ≠ a := fun z => by rw [z, n] at q2; cases q2
    rw [mask_out (by rw [List.cons_append]; simp only [List.mem_cons, not_or]; exact ⟨hb, q1⟩)]
    exact st.keep b o (s.ok.out fun z => q1 (List.mem_append_right _ z)) q2
  refine ⟨s.ok, s.len, fun j d' h => ?_, s.inj, fun b hb => ?_, fun b hb => ?_, s'.dok⟩
  · obtain ⟨v, h1, h2⟩ := s.all j d' h
    exact ⟨v, h1, h2.move carry fun x hx => ⟨List.mem_cons_of_mem _ (h2.inL x hx), s.keepL st (h2.inL x hx)⟩⟩
  · rw [List.cons_append] at hb
    rcases List.mem_cons.mp hb with rfl | hb
    · exact e
    · exact s'.lst b hb
  · rcases List.mem_cons.mp hb with rfl | hb
    · exact fun z => nL (List.mem_append_right _ z)
    · exact s.LM b hb
theorem SOk.addL {c : Cfg} {L : List Addr} {H H' : Hp} {σ : L2.St} {ρ : En} (s : SOk T c L H σ ρ) {a : Addr} {xs : List V} (st : Stp c H H') (n : H a = none) (e : H' a = some (.lst xs)) : SOk T c (a :: L) H' σ ρ := s.addK st n (.lst e)
/-- a thing of L without a slot changes -/
theorem SOk.chgK {c : Cfg} {L : List Addr} {H : Hp} {σ : L2.St} {ρ : En} {a : Addr} {o : HO} (s : SOk T c L H σ ρ) (aL : a ∈ L) (ho : ∀ xs, o ≠ .tup xs) (no : ∀ (i : Nat) k v, ρ[i]? = some (some k) → σ[i]? = some (some v) → a ∉ k.adr v) : SOk T c L (upd H a o) σ ρ := by
  have hm : mask (L ++ c.M) (upd H a o) = mask (L ++ c.M) H := mask_chg (List.mem_append_left _ aL)
  refine ⟨s.ok, s.len, fun j d' h => ?_, s.inj, fun b hb => ?_, s.LM, fun b hb => ?_⟩
  · obtain ⟨v, h1, h2⟩ := s.all j d' h
    refine ⟨v, h1, h2.move (by rw [hm]; exact fun _ _ q => q) fun x hx => ⟨h2.inL x hx, upd_ne ?_⟩⟩
    rintro rfl
    exact no j d' v h h1 hx
  · by_cases q : b = a
    · subst q; exact ⟨o, upd_same, ho⟩
    · obtain ⟨u, h1, h2⟩ := s.lst b hb
      exact ⟨u, by rw [upd_ne q]; exact h1, h2⟩
  · obtain ⟨p, ns, e1, e2, e3, e4⟩ := s.dok b hb
    have h1 : b.1 ≠ a := fun z => s.LM a aL (z ▸ (s.ok.drM b hb).1)
    have h3 : b.2 ≠ a := fun z => s.LM a aL (z ▸ (s.ok.drM b hb).2)
    exact ⟨p, ns, by rw [upd_ne h1]; exact e1, e2, by rw [upd_ne h3]; exact e3, e4⟩
instance : STt T tYes (fun _ P => P true) where
  run := fun s h k => k _ _ (Stp.refl _ _) h
@[reducible, simp] def pLc (pi : PA1) (g : D → En → (En → Prop) → Prop) (sl : List Nat) (pt : PB1) (pe : PE1) (vs : List Nat) : PA1 := fun ρ P => pi ρ fun items => items.length ≤ 10000 ∧ (∀ i ∈ sl, i ∈ vs) ∧ ∃ I : Nat → List D → Prop, I 0 [] ∧
  (∀ i d acc, items[i]? = some d → I i acc → g d (wipeK ρ vs) fun ρ' => pt ρ' fun b => if b = true then pe ρ' fun r => I (i + 1) (acc ++ [r]) else I (i + 1) acc) ∧ ∀ acc, I items.length acc → P acc
instance {wi : TI} {g : TG} {pi : PA1} {p : D → En → (En → Prop) → Prop} {sl vs : List Nat} [h0 : SI T wi pi] [hg : SG T g p sl] [ht : STt T tt pt] [he : SE T te pe] : SF T (tLc wi g tt te vs) (pLc pi p sl pt pe vs) where
  run := fun {c L H σ ρ P Q} s h k => h0.run s h fun J n G Y H1 items w hn st h2 hG hY => by
    obtain ⟨hz, hsl, I, i0, it, ie⟩ := h2
    have S := s.step st
    intro Dn nD
    have S0 : SOk T c (Dn :: L) (upd H1 Dn (.lst [])) (wipe σ vs) (wipeK ρ vs) := (S.wipe vs).addL (.same (Same.new nD)) nD upd_same
    have st0 : Stp c H1 (upd H1 Dn (.lst [])) := .same (Same.new nD)
    have ndD : c.nd Dn := S.nodr' nD
    have no : ∀ (i : Nat) k v, (wipeK ρ vs)[i]? = some (some k) → (wipe σ vs)[i]? = some (some v) → Dn ∉ k.adr v := fun i k v hi e z => by
      obtain ⟨b, h1, h2⟩ := (S.wipe vs).all i k hi
      rw [e] at h1
      cases h1
      exact S.fresh nD (List.mem_append_left _ (h2.inL _ z))
    have thr : ∀ {H' : Hp}, SOk T c (Dn :: L) H' (wipe σ vs) (wipeK ρ vs) → Stp c H1 H' → Thr T c L H1 (Dn :: L) H' := fun {H'} s' e' => by
      refine ⟨⟨fun b o nb q => e'.keep b o nb (mask_some q).2, fun a ha q => ?_⟩, fun a ha => ?_, s'.lst, s'.LM⟩
      · exact e'.dr a ha (q.same (mask_le L H1))
      · rcases List.mem_cons.mp ha with rfl | ha
        · by_cases hb : a ∈ L
          · exact mask_in hb
          · rw [mask_out hb]; exact nD
        · exact mask_in ha
    refine lc_it w (fun i H' => SOk T c (Dn :: L) H' (wipe σ vs) (wipeK ρ vs) ∧ Stp c H1 H' ∧ ∃ xs acc, H' Dn = some (.lst xs) ∧ RpA T (mask (Dn :: (L ++ c.M)) H') xs acc ∧ acc.length ≤ i ∧ I i acc) ⟨S0, st0, [], [], upd_same, .nil, Nat.le_refl _, i0⟩ ?_ ?_ ?_
    · rintro i H' _ ⟨s', e', _⟩
      exact hG _ _ (thr s' e')
    · rintro i x H' H'' hi ⟨s', e', xs, acc, hD, rD, hl, hI⟩ y
      obtain ⟨d, hd, st2, r2⟩ := hY i x _ H' H'' hi (thr s' e') y
      refine hg.run (s'.step st2) r2 (it i d acc hd hI) fun σ2 ρ2 s2 h2 hw => ⟨?_, ?_⟩
      · rw [hw vs hsl]
        exact wipe_wipe σ vs
      refine ht.run s2 h2 fun b H3 st3 h3 => ?_
      have e3 : Stp c H1 H3 := (e'.trans st2).trans st3
      have keepD : ∀ {Ha Hb : Hp}, Stp c Ha Hb → Ha Dn = some (.lst xs) → Hb Dn = some (.lst xs) := fun z q => z.keep Dn _ ndD q
      have keepR : ∀ {Ha Hb : Hp}, Stp c Ha Hb → RpA T (mask (Dn :: (L ++ c.M)) Ha) xs acc → RpA T (mask (Dn :: (L ++ c.M)) Hb) xs acc := fun {Ha Hb} z q => q.mono fun b o q => by
        obtain ⟨q1, q2⟩ := mask_some q
        rw [mask_out q1]
        exact z.keep b o (s.ok.out fun z => q1 (List.mem_cons_of_mem _ (List.mem_append_right _ z))) q2
      cases b with
      | false =>
        refine iteF ⟨(s'.step st2).step st3, e3, xs, acc, keepD (st2.trans st3) hD, keepR (st2.trans st3) rD, by omega, by simpa using h3⟩
      | true =>
        refine iteT (he.run (s2.step st3) h3 fun v r H4 st4 r4 h4 => ?_)
        have z4 := (st2.trans st3).trans st4
        have hlen : xs.length = acc.length := rD.length
        have hi2 : i < items.length := by omega
        refine ⟨xs, keepD z4 hD, by rw [hlen]; exact Nat.lt_of_le_of_lt hl (Nat.lt_of_lt_of_le hi2 (size_ok hz)), ((s'.step z4).chgK List.mem_cons_self (fun _ e => nomatch e) no), ?_, xs ++ [v], acc ++ [r], upd_same, ?_, by simp; omega, h4⟩
        · refine ⟨fun b o nb q => ?_, fun a ha q => ?_⟩
          · have hb : b ≠ Dn := fun z => by rw [z, nD] at q; cases q
            rw [upd_ne hb]
            exact (e'.trans z4).keep b o nb q
          · obtain ⟨p, ns, e1, e2, e3', e4⟩ := (e'.trans z4).dr a ha q
            have h1 : a.1 ≠ Dn := fun z => by obtain ⟨p', ns', q1, _⟩ := q; rw [z, nD] at q1; cases q1
            have h3 : a.2 ≠ Dn := fun z => by obtain ⟨p', ns', _, _, q1, _⟩ := q; rw [z, nD] at q1; cases q1
            exact ⟨p, ns, by rw [upd_ne h1]; exact e1, e2, by rw [upd_ne h3]; exact e3', e4⟩
        · have hm : mask (Dn :: (L ++ c.M)) (upd H4 Dn (.lst (xs ++ [v]))) = mask (Dn :: (L ++ c.M)) H4 := by
            funext b
            by_cases q : b ∈ Dn :: (L ++ c.M)
            · rw [mask_in q, mask_in q]
            · rw [mask_out q, mask_out q, upd_ne]
              rintro rfl
              exact q List.mem_cons_self
          rw [hm]
          exact (keepR z4 rD).append (.cons r4 .nil)
    · rintro H' ⟨s', e', xs, acc, hD, rD, hl, hI⟩
      rw [← hn] at hI
      exact k Dn xs acc H' (st.trans e') (fresh_back S st nD) hD rD (ie acc hI)
/-! ### calls -/
/-- what a def without draws promises -/
def spD (T : Tx) (post : List D → (D → Prop) → Prop) : Sp := fun vs H Q _ => ∃ (S : List Addr) (ds : List D) (P : D → Prop), (∀ a ∈ S, NT H a) ∧ RpA T (mask S H) vs ds ∧ post ds P ∧
  ∀ v d H', Same H H' → Rp T (mask S H') v d → P d → Q v H'
/-- what a def with draws promises; the draws are its first argument -/
def spR (T : Tx) (post : List D → (D → Prop) → Prop) : Sp := fun vs H Q _ => ∃ (a : Addr × Addr) (us : List V) (S : List Addr) (ds : List D) (P : D → Prop), vs = .ref a.1 :: us ∧ a.1 ∈ S ∧ a.2 ∈ S ∧ (∀ b ∈ S, NT H b) ∧ DrAt H a ∧ RpA T (mask S H) us ds ∧ post ds P ∧
  ∀ v d H', (∀ b o, b ≠ a.1 → H b = some o → H' b = some o) → DrAt H' a → Rp T (mask S H') v d → P d → Q v H'
@[reducible, simp] def pCall (post : List D → (D → Prop) → Prop) (pa : PA1) : PE1 := fun ρ P => pa ρ fun ds => post ds P
instance {post : List D → (D → Prop) → Prop} {E : XK} [ha : SA T ta pa] : SE T (tCall (spD T post) [] E ta) (pCall post pa) where
  run := fun {c L H σ ρ P Q} s h k => ha.run s h fun vs ds H1 st r h1 => by
    rw [List.append_nil]
    exact ⟨L ++ c.M, ds, P, (s.step st).lst, r, h1, fun v d H' e r' q => k v d H' (st.trans (.same e)) r' q⟩
@[reducible, simp] def pCallR (post : List D → (D → Prop) → Prop) (i : Nat) (pa : PA1) : PE1 := fun ρ P => ρ[i]? = some (some .dr) ∧ pa ρ fun ds => post ds P
instance (priority := high) {post : List D → (D → Prop) → Prop} {i : Nat} {E : XK} [ha : SA T ta pa] : SE T (tCall (spR T post) [] E (tCons (tVar i) ta)) (pCallR post i pa) where
  run := fun {c L H σ ρ P Q} s h k => by
    obtain ⟨hi, h⟩ := h
    obtain ⟨a, e1, e2⟩ := s.drw i hi
    refine ⟨_, e2, ha.run s h fun vs ds H1 st r h1 => ?_⟩
    show spR T post ((V.ref a.1 :: vs) ++ []) H1 Q E
    rw [List.append_nil]
    have S := s.step st
    have hM := s.ok.drM a e1
    refine ⟨a, vs, L ++ c.M, ds, P, rfl, List.mem_append_right _ hM.1, List.mem_append_right _ hM.2, S.lst, S.dok a e1, r, h1, fun v d H' e dr r' q => k v d H' (st.trans ⟨fun b o nb q => e b o (fun z => nb a e1 z.symm) q, fun b hb _ => ?_⟩) r' q⟩
    rw [e1] at hb
    cases hb
    exact dr
/-- a method of a Web | of a Game -/
@[reducible, simp] def pMethW (post : List D → (D → Prop) → Prop) (pe : PE1) (pa : PA1) : PE1 := fun ρ P => pe ρ fun d => (∃ k ar, d = .web k ar) ∧ pa ρ fun ds => post (d :: ds) P
@[reducible, simp] def pMethG (post : List D → (D → Prop) → Prop) (pe : PE1) (pa : PA1) : PE1 := fun ρ P => pe ρ fun d => (∃ k ar, d = .game k ar) ∧ pa ρ fun ds => post (d :: ds) P
class NoF (m : Str) : Prop where
  w : ∀ k c t, (wf k c t).lookup m = none
  g : ∀ k t n, (gf k t n).lookup m = none
theorem NoF.of {m : Str} (h1 : ¬ m = "pegs") (h2 : ¬ m = "_costs") (h3 : ¬ m = "arrows") (h4 : ¬ m = "webs") (h5 : ¬ m = "discs") : NoF m := by
  have f : ∀ {x : Str}, ¬ m = x → (m == x) = false := fun h => beq_eq_false_iff_ne.mpr h
  refine ⟨fun k c t => ?_, fun k t n => ?_⟩
  · simp [wf, List.lookup, f h1, f h2, f h3]
  · simp [gf, List.lookup, f h1, f h4, f h5]
instance {post : List D → (D → Prop) → Prop} {m : Str} {E : XK} [hm : NoF m] [he : SE T te pe] [ha : SA T ta pa] : SE T (tMeth T.CW m (spD T post) [] E te ta) (pMethW post pe pa) where
  run := fun {c L H σ ρ P Q} s h k => he.run s h fun x d H1 st r h1 => by
    obtain ⟨⟨kk, ar, rfl⟩, h1⟩ := h1
    cases id r with
    | @web a dx cc tt _ xs _ e1 e2 e3 =>
      refine ⟨a, dx, _, rfl, (mask_some e1).2, hm.w _ _ _, ha.run (s.step st) h1 fun vs ds H2 st2 r2 h2 => ?_⟩
      rw [List.append_nil]
      exact ⟨L ++ c.M, _, P, ((s.step st).step st2).lst, .cons (r.mono (st2.mask s.ok)) r2, h2, fun v d H' e r' q => k v d H' ((st.trans st2).trans (.same e)) r' q⟩
instance {post : List D → (D → Prop) → Prop} {m : Str} {E : XK} [hm : NoF m] [he : SE T te pe] [ha : SA T ta pa] : SE T (tMeth T.CG m (spD T post) [] E te ta) (pMethG post pe pa) where
  run := fun {c L H σ ρ P Q} s h k => he.run s h fun x d H1 st r h1 => by
    obtain ⟨⟨kk, ar, rfl⟩, h1⟩ := h1
    cases id r with
    | @game a dx tt _ xs _ e1 e2 e3 =>
      refine ⟨a, dx, _, rfl, (mask_some e1).2, hm.g _ _ _, ha.run (s.step st) h1 fun vs ds H2 st2 r2 h2 => ?_⟩
      rw [List.append_nil]
      exact ⟨L ++ c.M, _, P, ((s.step st).step st2).lst, .cons (r.mono (st2.mask s.ok)) r2, h2, fun v d H' e r' q => k v d H' ((st.trans st2).trans (.same e)) r' q⟩
/-- C(..): what __init__ promises: post of the arguments, with the instance's datum -/
def spI (T : Tx) (C : Addr) (post : List D → (D → Prop) → Prop) : Sp := fun vs H Q _ => ∃ (x dx : Addr) (us : List V) (S : List Addr) (ds : List D) (P : D → Prop), vs = .ref x :: us ∧ H x = some (.ins C dx []) ∧ x ∉ S ∧ (∀ a ∈ S, NT H a) ∧ RpA T (mask (x :: S) H) us ds ∧ post ds P ∧
  ∀ d H', (∀ b o, b ≠ x → H b = some o → H' b = some o) → Rp T (mask S H') (.ref x) d → P d → Q .non H'
@[reducible, simp] def pMake (post : List D → (D → Prop) → Prop) (pa : PA1) : PE1 := fun ρ P => pa ρ fun ds => post ds P
instance {C : Addr} {post : List D → (D → Prop) → Prop} {E : XK} [ha : SA T ta pa] : SE T (tMake C (spI T C post) [] E ta) (pMake post pa) where
  run := fun {c L H σ ρ P Q} s h k => ha.run s h fun vs ds H1 st r h1 => by
    intro x dx nx ndx ne
    rw [List.append_nil]
    have S := s.step st
    have lx := S.fresh nx
    have ldx := S.fresh ndx
    refine ⟨x, dx, vs, L ++ c.M, ds, P, rfl, upd_same, lx, fun a ha => ?_, r.mono fun b o q => ?_, h1, fun d H' e r' q => ⟨rfl, k _ d H' (st.trans (.same fun b o q => e b o (ne_of_none q nx) ?_)) r' q⟩⟩
    · have h1 : a ≠ x := fun z => lx (z ▸ ha)
      have h2 : a ≠ dx := fun z => ldx (z ▸ ha)
      obtain ⟨u, z1, z2⟩ := S.lst a ha
      exact ⟨u, by rw [upd_ne h1, upd_ne h2]; exact z1, z2⟩
    · obtain ⟨q1, q2⟩ := mask_some q
      have h1 : b ≠ x := fun z => by rw [z, nx] at q2; cases q2
      have h2 : b ≠ dx := fun z => by rw [z, ndx] at q2; cases q2
      rw [mask_out (by simp only [List.mem_cons, not_or]; exact ⟨h1, q1⟩), upd_ne h1, upd_ne h2]
      exact q2
    · rw [upd_ne (ne_of_none q nx), upd_ne (ne_of_none q ndx)]
      exact q
/-! fields -/
/-- what is known of the two classes -/
class CF (T : Tx) (K : PySem.W.Frag) : Prop where
  cW : Cls K T.CW
  cG : Cls K T.CG
  nW : ∀ f : Str, (f = "pegs" ∨ f = "_costs" ∨ f = "arrows") → NoAttr K T.CW f
  nG : ∀ f : Str, (f = "pegs" ∨ f = "webs" ∨ f = "discs") → NoAttr K T.CG f
theorem lk_of {x y : Str} (h : decide (x = y) = false) : (x == y) = false := beq_eq_false_iff_ne.mpr (of_decide_eq_false h)
theorem lk1 : (("_costs" : Str) == "pegs") = false := lk_of (by decide +kernel)
theorem lk2 : (("arrows" : Str) == "pegs") = false := lk_of (by decide +kernel)
theorem lk3 : (("arrows" : Str) == "_costs") = false := lk_of (by decide +kernel)
theorem lk4 : (("webs" : Str) == "pegs") = false := lk_of (by decide +kernel)
theorem lk5 : (("discs" : Str) == "pegs") = false := lk_of (by decide +kernel)
theorem lk6 : (("discs" : Str) == "webs") = false := lk_of (by decide +kernel)
theorem lkr (x : Str) : (x == x) = true := beq_self_eq_true x
@[reducible, simp] def pPegs (pe : PE1) : PE1 := fun ρ P => pe ρ fun d => ∃ k ar, (d = .web k ar ∨ d = .game k ar) ∧ P (.int k)
instance [cf : CF T K] [he : SE T te pe] : SE T (tFld K te "pegs") (pPegs pe) where
  run := fun s h k => he.run s h fun x d H1 st r h1 => by
    obtain ⟨kk, ar, hd, h1⟩ := h1
    rcases hd with rfl | rfl
    · cases r with
      | @web a dx cc tt _ xs _ e1 e2 e3 => exact ⟨a, T.CW, dx, _, .int kk, rfl, (mask_some e1).2, cf.cW, cf.nW _ (.inl rfl), by simp [wf, List.lookup, lkr], k _ _ _ st (.int _) h1⟩
    · cases r with
      | @game a dx tt _ xs _ e1 e2 e3 => exact ⟨a, T.CG, dx, _, .int kk, rfl, (mask_some e1).2, cf.cG, cf.nG _ (.inl rfl), by simp [gf, List.lookup, lkr], k _ _ _ st (.int _) h1⟩
@[reducible, simp] def pArrows (pe : PE1) : PE1 := fun ρ P => pe ρ fun d => ∃ k ar, d = .web k ar ∧ P (.tup ar)
instance [cf : CF T K] [he : SE T te pe] : SE T (tFld K te "arrows") (pArrows pe) where
  run := fun s h k => he.run s h fun x d H1 st r h1 => by
    obtain ⟨kk, ar, rfl, h1⟩ := h1
    cases r with
    | @web a dx cc tt _ xs _ e1 e2 e3 => exact ⟨a, T.CW, dx, _, .ref tt, rfl, (mask_some e1).2, cf.cW, cf.nW _ (.inr (.inr rfl)), by simp [wf, List.lookup, lk2, lk3, lkr], k _ _ _ st (.tup e2 e3) h1⟩
@[reducible, simp] def pWebs (pe : PE1) : PE1 := fun ρ P => pe ρ fun d => ∃ k ws, d = .game k ws ∧ P (.tup ws)
instance [cf : CF T K] [he : SE T te pe] : SE T (tFld K te "webs") (pWebs pe) where
  run := fun s h k => he.run s h fun x d H1 st r h1 => by
    obtain ⟨kk, ws, rfl, h1⟩ := h1
    cases r with
    | @game a dx tt _ xs _ e1 e2 e3 => exact ⟨a, T.CG, dx, _, .ref tt, rfl, (mask_some e1).2, cf.cG, cf.nG _ (.inr (.inl rfl)), by simp [gf, List.lookup, lk4, lkr], k _ _ _ st (.tup e2 e3) h1⟩
@[reducible, simp] def pDiscs (pe : PE1) : PE1 := fun ρ P => pe ρ fun d => ∃ k ws, d = .game k ws ∧ P (.int ws.length)
instance [cf : CF T K] [he : SE T te pe] : SE T (tFld K te "discs") (pDiscs pe) where
  run := fun s h k => he.run s h fun x d H1 st r h1 => by
    obtain ⟨kk, ws, rfl, h1⟩ := h1
    cases r with
    | @game a dx tt _ xs _ e1 e2 e3 => exact ⟨a, T.CG, dx, _, .int xs.length, rfl, (mask_some e1).2, cf.cG, cf.nG _ (.inr (.inr rfl)), by simp [gf, List.lookup, lk5, lk6, lkr], k _ _ _ st (.int _) (by rw [e3.length]; exact h1)⟩
/-! built-in calls -/
@[reducible, simp] def pCB (q : List D → (D → Prop) → Prop) (pa : PA1) : PE1 := fun ρ P => pa ρ fun ds => q ds P
@[reducible, simp] def pCBF (q : List D → (List D → Prop) → Prop) (pa : PA1) : PA1 := fun ρ P => pa ρ fun ds => q ds P
instance {r : List V → Hp → VK → Prop} {q : List D → (D → Prop) → Prop} [hr : SC T r q] [ha : SA T ta pa] : SE T (tCB r ta) (pCB q pa) where
  run := fun s h k => ha.run s h fun vs ds H1 st r1 h1 => hr.run (s.step st) r1 h1 fun v d H2 st2 r2 h2 => k v d H2 (st.trans st2) r2 h2
instance {r : List V → Hp → VK → Prop} {q : List D → (List D → Prop) → Prop} [hr : SCF T r q] [ha : SA T ta pa] : SF T (tCB r ta) (pCBF q pa) where
  run := fun s h k => ha.run s h fun vs ds H1 st r1 h1 => hr.run (s.step st) r1 h1 fun a xs es H2 st2 n e r2 h2 => k a xs es H2 (st.trans st2) (fresh_back (s.step st) st n) e r2 h2
theorem RpA.one {H : Hp} {vs : List V} {d : D} (r : RpA T H vs [d]) : ∃ v, vs = [v] ∧ Rp T H v d := by
  cases r with
  | cons r1 r2 => cases r2; exact ⟨_, rfl, r1⟩
theorem RpA.two {H : Hp} {vs : List V} {d e : D} (r : RpA T H vs [d, e]) : ∃ v w, vs = [v, w] ∧ Rp T H v d ∧ Rp T H w e := by
  cases r with
  | cons r1 r2 => cases r2 with
    | cons r3 r4 => cases r4; exact ⟨_, _, rfl, r1, r3⟩
def rLen1 (K : PySem.W.Frag) : List V → Hp → VK → Prop := fun xs H Q => ∃ p ys, xs = [.ref p] ∧ (SqL K H p ys ∨ SqT K H p ys) ∧ Q (.int ys.length) H
theorem c_len {X : Cx} : CallR X (.builtin "len") (rLen1 X.K) := call_len_seq
@[reducible, simp] def qLen : List D → (D → Prop) → Prop := fun ds P => ∃ d es, ds = [d] ∧ (d = .lst es ∨ d = .tup es) ∧ P (.int (es.length : Int))
instance : SC T (rLen1 K) qLen where
  run := fun s r h k => by
    obtain ⟨d, es, rfl, hd, h⟩ := h
    obtain ⟨v, rfl, rv⟩ := r.one
    rcases hd with rfl | rfl
    · cases rv with
      | @lst a xs _ e1 e2 => exact ⟨a, xs, rfl, .inl (SqL.of (mask_some e1).2), k _ _ _ (Stp.refl _ _) (.int _) (by rw [e2.length]; exact h)⟩
    · cases rv with
      | @tup a xs _ e1 e2 => exact ⟨a, xs, rfl, .inr (SqT.of (mask_some e1).2), k _ _ _ (Stp.refl _ _) (.int _) (by rw [e2.length]; exact h)⟩
def rList1 (K : PySem.W.Frag) : List V → Hp → VK → Prop := fun xs H Q => ∃ p ys, xs = [.ref p] ∧ (SqL K H p ys ∨ SqT K H p ys) ∧ ∀ l, H l = none → Q (.ref l) (upd H l (.lst ys))
theorem c_list {X : Cx} : CallR X (.type "list") (rList1 X.K) := call_list_of
@[reducible, simp] def qList : List D → (List D → Prop) → Prop := fun ds P => ∃ d es, ds = [d] ∧ (d = .lst es ∨ d = .tup es) ∧ P es
instance : SCF T (rList1 K) qList where
  run := fun s r h k => by
    obtain ⟨d, es, rfl, hd, h⟩ := h
    obtain ⟨v, rfl, rv⟩ := r.one
    rcases hd with rfl | rfl
    · cases rv with
      | @lst a xs _ e1 e2 => exact ⟨a, xs, rfl, .inl (SqL.of (mask_some e1).2), fun p hp => let ⟨q1, q2, q3⟩ := new_lst s hp e2; k _ _ _ _ q1 hp q2 q3 h⟩
    · cases rv with
      | @tup a xs _ e1 e2 => exact ⟨a, xs, rfl, .inr (SqT.of (mask_some e1).2), fun p hp => let ⟨q1, q2, q3⟩ := new_lst s hp e2; k _ _ _ _ q1 hp q2 q3 h⟩
def rTuple1 (K : PySem.W.Frag) : List V → Hp → VK → Prop := fun xs H Q => ∃ p ys, xs = [.ref p] ∧ ((SqL K H p ys ∧ ∀ l, H l = none → Q (.ref l) (upd H l (.tup ys))) ∨ (SqT K H p ys ∧ Q (.ref p) H))
theorem c_tuple {X : Cx} : CallR X (.type "tuple") (rTuple1 X.K) := call_tuple_of
@[reducible, simp] def qTuple : List D → (D → Prop) → Prop := fun ds P => ∃ d es, ds = [d] ∧ (d = .lst es ∨ d = .tup es) ∧ P (.tup es)
instance : SC T (rTuple1 K) qTuple where
  run := fun s r h k => by
    obtain ⟨d, es, rfl, hd, h⟩ := h
    obtain ⟨v, rfl, rv⟩ := r.one
    rcases hd with rfl | rfl
    · cases rv with
      | @lst a xs _ e1 e2 => exact ⟨a, xs, rfl, .inl ⟨SqL.of (mask_some e1).2, fun p hp => let ⟨q1, q2⟩ := s.lay (o := .tup xs) hp; k _ _ _ q1 (.tup q2 (e2.mono (q1.mask s.ok))) h⟩⟩
    · cases rv with
      | @tup a xs _ e1 e2 => exact ⟨a, xs, rfl, .inr ⟨SqT.of (mask_some e1).2, k _ _ _ (Stp.refl _ _) (.tup e1 e2) h⟩⟩
def rInt1 : List V → Hp → VK → Prop := fun xs H Q => (∃ i, xs = [.int i] ∧ Q (.int i) H) ∨ ∃ k, xs = [.bl k] ∧ Q (.int (if k then 1 else 0)) H
theorem c_int {X : Cx} : CallR X (.type "int") rInt1 := call_int1
@[reducible, simp] def qInt : List D → (D → Prop) → Prop := fun ds P => ∃ i, ds = [.int i] ∧ P (.int i)
instance : SC T rInt1 qInt where
  run := fun s r h k => by
    obtain ⟨i, rfl, h⟩ := h
    obtain ⟨v, rfl, rv⟩ := r.one
    cases rv
    exact .inl ⟨i, rfl, k _ _ _ (Stp.refl _ _) (.int _) h⟩
def rMin2 : List V → Hp → VK → Prop := fun xs H Q => ∃ i j, xs = [.int i, .int j] ∧ Q (.int (if j < i then j else i)) H
theorem c_min2 {X : Cx} (hc : X.calm = true) : CallR X (.builtin "min") rMin2 := call_min2 hc
@[reducible, simp] def qMin2 : List D → (D → Prop) → Prop := fun ds P => ∃ i j, ds = [.int i, .int j] ∧ P (.int (if j < i then j else i))
instance : SC T rMin2 qMin2 where
  run := fun s r h k => by
    obtain ⟨i, j, rfl, h⟩ := h
    obtain ⟨v, w, rfl, rv, rw'⟩ := r.two
    cases rv; cases rw'
    exact ⟨i, j, rfl, k _ _ _ (Stp.refl _ _) (.int _) h⟩
def rAll1 (K : PySem.W.Frag) : List V → Hp → VK → Prop := fun vs H Q => ∃ (a : Addr) (bs : List Bool), vs = [V.ref a] ∧ SqL K H a (bs.map V.bl) ∧ Q (.bl (bs.all id)) H
theorem c_all {X : Cx} (hc : X.calm = true) : CallR X (.builtin "all") (rAll1 X.K) := cr_all hc
@[reducible, simp] def qAll : List D → (D → Prop) → Prop := fun ds P => ∃ bs : List Bool, ds = [.lst (bs.map .bl)] ∧ P (.bl (bs.all id))
instance : SC T (rAll1 K) qAll where
  run := fun s r h k => by
    obtain ⟨bs, rfl, h⟩ := h
    obtain ⟨v, rfl, rv⟩ := r.one
    cases rv with
    | @lst a xs _ e1 e2 =>
      have e := e2.bls_inv
      subst e
      exact ⟨a, bs, rfl, SqL.of (mask_some e1).2, k _ _ _ (Stp.refl _ _) (.bl _) h⟩
/-- isinstance(x, int) | bool | (list, tuple) | an own class -/
def isiD : D → String → Option Bool
  | .int _, "int" => some true
  | .int _, "bool" => some false
  | .bl _, "int" => some true
  | .bl _, "bool" => some true
  | _, _ => none
@[reducible, simp] def pIsi (n : String) (pe : PE1) : PE1 := fun ρ P => pe ρ fun d => ∃ b, isiD d n = some b ∧ P (.bl b)
theorem isi_ii : PySem.W.kitOne K (.type "int") (.type "int") = some true := kit_ty (by decide +kernel)
theorem isi_ib : PySem.W.kitOne K (.type "int") (.type "bool") = some false := kit_ty (by decide +kernel)
theorem isi_bi : PySem.W.kitOne K (.type "bool") (.type "int") = some true := kit_ty (by decide +kernel)
theorem isi_bb : PySem.W.kitOne K (.type "bool") (.type "bool") = some true := kit_ty (by decide +kernel)
theorem isi_li : PySem.W.kitOne K (.type "list") (.type "list") = some true := kit_ty (by decide +kernel)
theorem isi_tl : PySem.W.kitOne K (.type "tuple") (.type "list") = some false := kit_ty (by decide +kernel)
theorem isi_tt : PySem.W.kitOne K (.type "tuple") (.type "tuple") = some true := kit_ty (by decide +kernel)
instance [he : SE T te pe] : SE T (tCB (rIsi K) (tCons te (tCons (tC (.ty "int")) tNil))) (pIsi "int" pe) where
  run := fun s h k => he.run s h fun x d H1 st r h1 => by
    obtain ⟨b, hb, h1⟩ := h1
    cases r with
    | int i => cases hb; exact ⟨_, _, _, _, true, rfl, .ty "int", .base (.int i), isi_ii, k _ _ _ st (.bl _) h1⟩
    | bl i => cases hb; exact ⟨_, _, _, _, true, rfl, .ty "int", .base (.bl i), isi_bi, k _ _ _ st (.bl _) h1⟩
    | _ => cases hb
instance [he : SE T te pe] : SE T (tCB (rIsi K) (tCons te (tCons (tC (.ty "bool")) tNil))) (pIsi "bool" pe) where
  run := fun s h k => he.run s h fun x d H1 st r h1 => by
    obtain ⟨b, hb, h1⟩ := h1
    cases r with
    | int i => cases hb; exact ⟨_, _, _, _, false, rfl, .ty "bool", .base (.int i), isi_ib, k _ _ _ st (.bl _) h1⟩
    | bl i => cases hb; exact ⟨_, _, _, _, true, rfl, .ty "bool", .base (.bl i), isi_bb, k _ _ _ st (.bl _) h1⟩
    | _ => cases hb
end
end
end DL
/-! DL5: the rule for a def; isinstance further; items and | of instances -/
namespace DL
open PySem L2 PyProof.Rows
noncomputable section
section
variable {P : Program} {w : World} {K : PySem.W.Frag} {mg : Str → Option Value} {base : Heap} {T : Tx}
def argsOf (ds : List D) (n : Nat) : En := ds.map (fun d => some (Kn.v d)) ++ List.replicate (n - ds.length) none
theorem RpA.slots {H : Hp} {vs : List V} {ds : List D} (r : RpA T H vs ds) (m : Nat) {i : Nat} {d : D} (h : (ds.map (fun d => some (Kn.v d)) ++ List.replicate m none)[i]? = some (some (.v d))) : ∃ v, (vs.map some ++ List.replicate m none)[i]? = some (some v) ∧ Rp T H v d := by
  have hl := r.length
  by_cases hi : i < ds.length
  · rw [List.getElem?_append_left (by rw [List.length_map]; exact hi), List.getElem?_map] at h
    cases e : ds[i]? with
    | none => rw [e] at h; cases h
    | some d' =>
      rw [e] at h
      have h' : d' = d := by simpa using h
      subst h'
      obtain ⟨v, hv, rv⟩ := r.getD e
      exact ⟨v, by rw [List.getElem?_append_left (by rw [List.length_map, hl]; exact hi), List.getElem?_map, hv]; rfl, rv⟩
  · rw [List.getElem?_append_right (by rw [List.length_map]; omega), List.getElem?_replicate] at h
    split at h <;> simp at h
theorem slots_v (ds : List D) (m : Nat) {i : Nat} {k : Kn} (h : (ds.map (fun d => some (Kn.v d)) ++ List.replicate m none)[i]? = some (some k)) : ∃ d, k = .v d := by
  by_cases hi : i < ds.length
  · rw [List.getElem?_append_left (by rw [List.length_map]; exact hi), List.getElem?_map] at h
    cases e : ds[i]? with
    | none => rw [e] at h; cases h
    | some d' =>
      rw [e] at h
      have h' : Kn.v d' = k := by simpa using h
      exact ⟨d', h'.symm⟩
  · rw [List.getElem?_append_right (by rw [List.length_map]; omega), List.getElem?_replicate] at h
    split at h <;> simp at h
theorem sok_start {H : Hp} {S : List Addr} {vs : List V} {ds : List D} (hS : ∀ a ∈ S, NT H a) (r : RpA T (mask S H) vs ds) (m : Nat) :
    SOk T ⟨S, none⟩ [] H (vs.map some ++ List.replicate m none) (ds.map (fun d => some (Kn.v d)) ++ List.replicate m none) := by
  refine ⟨⟨fun a h => (nomatch h)⟩, by simp [r.length], fun i k h => ?_, fun i j k k' v v' a h _ _ _ q _ => ?_, fun a h => hS a (by simpa using h), fun a h => (nomatch h), fun a h => (nomatch h)⟩
  · obtain ⟨d, rfl⟩ := slots_v ds m h
    obtain ⟨v, h1, h2⟩ := r.slots m h
    exact ⟨v, h1, h2⟩
  · obtain ⟨d, rfl⟩ := slots_v ds m h
    simp [Kn.adr] at q
/-- what is left of a def behind its term -/
def Left (T : Tx) (ts : TS) (ρ : En) (F : Fn) : Prop := ∃ q, SS T ts q ∧ q ρ F
theorem Left.mk {T : Tx} {ts : TS} {ρ : En} {F : Fn} {q : PS1} [h : SS T ts q] (hq : q ρ F) : Left T ts ρ F := ⟨q, h, hq⟩
abbrev FnP (K : PySem.W.Frag) (x qual : Str) (st : Stmt) (f : Addr) (fd : FuncData) : Prop := FunD K x qual (defArgs st) (defBody st) (defScope st) [] [] f fd
/-- THE RULE for a def without draws -/
theorem okD {x qual : Str} {st : Stmt} {f : Addr} {fd : FuncData} {N ps : List Str} {k : Nat} {post : List D → (D → Prop) → Prop} (F : FnP K x qual st f fd) (S : FnScope N ps (defScope st)) (len : ∀ ds P, post ds P → ds.length = ps.length)
    (body : ∀ (cdv : Value) (A : Around) (outer : List Env) (s : Shared) (H : Hp) (E : XK), Room k (A.deeper (envOfC qual (defScope st) s.heap.objs.size f cdv)) →
      ∃ ts, PSs (cxOf CX0 P w K mg base N qual (defScope st) f cdv A outer s H E).nox (defBody st) ts ∧ ∀ ds P, post ds P → Left T ts (argsOf ds N.length) { nx := fun _ => P .non, rt := P }) : FnOk P w K mg base CX0 (k + 1) f fd ps (spD T post) := by
  refine F.ok S (fun vs H Q E hs => ?_) (fun cdv A outer s H vs Q E hr hs => ?_)
  · obtain ⟨S', ds, P', _, r, hp, _⟩ := hs
    rw [r.length]
    exact len ds P' hp
  · obtain ⟨ts, hb, hl2⟩ := body cdv A outer s H E hr
    refine ⟨ts, hb.nox, ?_⟩
    obtain ⟨S', ds, P', hS, r, hp, hk⟩ := hs
    have hl := r.length
    have s0 := sok_start hS r (N.length - vs.length)
    obtain ⟨q, hq, h2⟩ := hl2 ds P' hp
    unfold argsOf at h2
    rw [← hl] at h2
    have er : ∀ {H' : Hp}, Stp ⟨S', none⟩ H H' → Same H H' := fun e b o q => e.keep b o (fun a ha => nomatch ha) q
    exact hq.run (H0 := H) s0 (Stp.refl _ _) (fun a ha => nomatch ha) h2 ⟨fun L' H' σ' ρ' s' e' f' h' => hk _ _ _ (er e') .non h', fun v d H' e' r' h' => hk v d H' (er e') r' h', fun _ _ _ _ _ _ _ h' => h'.elim, fun _ _ _ _ _ _ _ h' => h'.elim⟩
/-- THE RULE for a def whose first argument is the draws -/
theorem okR {x qual : Str} {st : Stmt} {f : Addr} {fd : FuncData} {N ps : List Str} {k : Nat} {post : List D → (D → Prop) → Prop} (F : FnP K x qual st f fd) (S : FnScope N ps (defScope st)) (len : ∀ ds P, post ds P → ds.length + 1 = ps.length)
    (body : ∀ (cdv : Value) (A : Around) (outer : List Env) (s : Shared) (H : Hp) (E : XK), Room k (A.deeper (envOfC qual (defScope st) s.heap.objs.size f cdv)) →
      ∃ ts, PSs (cxOf CX0 P w K mg base N qual (defScope st) f cdv A outer s H E).nox (defBody st) ts ∧ ∀ ds P, post ds P → Left T ts (some .dr :: argsOf ds (N.length - 1)) { nx := fun _ => P .non, rt := P }) : FnOk P w K mg base CX0 (k + 1) f fd ps (spR T post) := by
  refine F.ok S (fun vs H Q E hs => ?_) (fun cdv A outer s H vs Q E hr hs => ?_)
  · obtain ⟨a, us, S', ds, P', rfl, _, _, _, _, r, hp, _⟩ := hs
    rw [List.length_cons, r.length]
    exact len ds P' hp
  obtain ⟨ts, hb, hl2⟩ := body cdv A outer s H E hr
  refine ⟨ts, hb.nox, ?_⟩
  · obtain ⟨a, us, S', ds, P', rfl, hA, hA2, hS, dr, r, hp, hk⟩ := hs
    have hl := r.length
    obtain ⟨q, hq, h2⟩ := hl2 ds P' hp
    have s1 := sok_start hS r (N.length - 1 - us.length)
    unfold argsOf at h2
    rw [← hl] at h2
    have es : L2.start N (V.ref a.1 :: us) = some (V.ref a.1) :: (us.map some ++ List.replicate (N.length - 1 - us.length) none) := by
      unfold L2.start
      rw [List.map_cons, List.cons_append, List.length_cons]
      have : N.length - (us.length + 1) = N.length - 1 - us.length := by omega
      rw [this]
    have s0 : SOk T ⟨S', some a⟩ [] H (L2.start N (V.ref a.1 :: us)) (some .dr :: (ds.map (fun d => some (Kn.v d)) ++ List.replicate (N.length - 1 - us.length) none)) := by
      rw [es]
      refine ⟨⟨fun b hb => ?_⟩, by rw [List.length_cons, List.length_cons, s1.len], fun i k hi => ?_, fun i j k k' v v' b hi _ _ _ q _ => ?_, fun b hb => hS b (by simpa using hb), fun b hb => (nomatch hb), fun b hb => ?_⟩
      · cases hb; exact ⟨hA, hA2⟩
      · cases i with
        | zero =>
          have e : k = .dr := by simpa using hi.symm
          subst e
          exact ⟨_, rfl, a, rfl, rfl⟩
        | succ i =>
          have hi' : (ds.map (fun d => some (Kn.v d)) ++ List.replicate (N.length - 1 - us.length) none)[i]? = some (some k) := by simpa using hi
          obtain ⟨d, rfl⟩ := slots_v ds _ hi'
          obtain ⟨v, h1, h2⟩ := s1.val i d hi'
          exact ⟨v, by simpa using h1, h2⟩
      · cases i with
        | zero =>
          have e : k = .dr := by simpa using hi.symm
          subst e
          simp [Kn.adr] at q
        | succ i =>
          have hi' : (ds.map (fun d => some (Kn.v d)) ++ List.replicate (N.length - 1 - us.length) none)[i]? = some (some k) := by simpa using hi
          obtain ⟨d, rfl⟩ := slots_v ds _ hi'
          simp [Kn.adr] at q
      · cases hb; exact dr
    have er : ∀ {H' : Hp}, Stp ⟨S', some a⟩ H H' → (∀ b o, b ≠ a.1 → H b = some o → H' b = some o) ∧ DrAt H' a := fun e => ⟨fun b o hb q => e.keep b o (fun z hz => by cases hz; exact fun y => hb y.symm) q, e.dr a rfl dr⟩
    exact hq.run (H0 := H) s0 (Stp.refl _ _) (fun a ha => nomatch ha) h2 ⟨fun L' H' σ' ρ' s' e' f' h' => hk _ _ _ (er e').1 (er e').2 .non h', fun v d H' e' r' h' => hk v d H' (er e').1 (er e').2 r' h', fun _ _ _ _ _ _ _ h' => h'.elim, fun _ _ _ _ _ _ _ h' => h'.elim⟩
end
section
variable {T : Tx} {K : PySem.W.Frag} {te tb tf : TE} {pe pb pf : PE1} {ta : TA} {pa : PA1}
/-- isinstance(x, (list, tuple)) of a list or a tuple -/
@[reducible, simp] def pIsLT (pe : PE1) : PE1 := fun ρ P => pe ρ fun d => (∃ ds, d = .lst ds ∨ d = .tup ds) ∧ P (.bl true)
theorem isi_l : PySem.W.kitAny K (.type "list") [.type "list", .type "tuple"] = some true := kitAny_cons isi_li (fun h => nomatch h) (fun _ => rfl)
theorem isi_t : PySem.W.kitAny K (.type "tuple") [.type "list", .type "tuple"] = some true := kitAny_cons isi_tl (fun _ => kitAny_cons isi_tt (fun h => nomatch h) (fun _ => rfl)) (fun h => nomatch h)
instance (priority := high) [he : SE T te pe] : SE T (tCB (rIsiT K) (tCons te (tCons (tTup (tCons (tC (.ty "list")) (tCons (tC (.ty "tuple")) tNil))) tNil))) (pIsLT pe) where
  run := fun {c L H σ ρ P Q} s h k => he.run s h fun x d H1 st r h1 => by
    obtain ⟨⟨ds, hd⟩, h1⟩ := h1
    have S := s.step st
    refine ⟨by show 2 ≤ sizeLine; decide, fun p hp => ?_⟩
    obtain ⟨e1, e2⟩ := S.lay (o := .tup [.ty "list", .ty "tuple"]) hp
    have fin := k (.bl true) (.bl true) _ (st.trans e1) (.bl true) h1
    have kk : ∀ {a : Addr} {o : HO}, H1 a = some o → upd H1 p (.tup [.ty "list", .ty "tuple"]) a = some o := fun q => by rw [upd_ne (ne_of_none q hp)]; exact q
    rcases hd with rfl | rfl
    · cases r with
      | @lst a xs _ h2 r2 => exact ⟨_, p, _, .type "list", _, true, rfl, upd_same, .cons (.ty "list") (.cons (.ty "tuple") .nil), .base (.lst (kk (mask_some h2).2)), isi_l, fin⟩
    · cases r with
      | @tup a xs _ h2 r2 => exact ⟨_, p, _, .type "tuple", _, true, rfl, upd_same, .cons (.ty "list") (.cons (.ty "tuple") .nil), .base (.tup (kk (mask_some h2).2)), isi_t, fin⟩
/-- isinstance(x, C), x an instance of C -/
class CI (T : Tx) (K : PySem.W.Frag) : Prop extends CF T K where
  aW : PySem.W.findIn K (.ref T.CW) "__class__" = some (some (.builtin "object.__class__"))
  aG : PySem.W.findIn K (.ref T.CG) "__class__" = some (some (.builtin "object.__class__"))
  hn : PySem.W.specialIn K (.builtin "object.__class__") "__get__" = some (some (.builtin "getset_descriptor.__get__"))
  tk : PySem.W.takesIn K (.builtin "object.__class__") = some true
  mW : PySem.W.mroIn K T.CW (.type "object") = some true
  mG : PySem.W.mroIn K T.CG (.type "object") = some true
theorem kit_self (C : Addr) : PySem.W.kitOne K (.ref C) (.ref C) = some true := by
  unfold PySem.W.kitOne
  rw [if_pos (by simp)]
@[reducible, simp] def pIsW (pe : PE1) : PE1 := fun ρ P => pe ρ fun d => (∃ k ar, d = .web k ar) ∧ P (.bl true)
@[reducible, simp] def pIsG (pe : PE1) : PE1 := fun ρ P => pe ρ fun d => (∃ k ar, d = .game k ar) ∧ P (.bl true)
instance (priority := high) [ci : CI T K] [he : SE T te pe] : SE T (tCB (rIsi K) (tCons te (tCons (tC (.ref T.CW)) tNil))) (pIsW pe) where
  run := fun {c L H σ ρ P Q} s h k => he.run s h fun x d H1 st r h1 => by
    obtain ⟨⟨kk, ar, rfl⟩, h1⟩ := h1
    cases r with
    | @web a dx cc tt _ xs _ e1 e2 e3 => exact ⟨_, _, _, _, true, rfl, .own T.CW, .base (.ins (mask_some e1).2 ci.cW ci.aW ci.hn ci.tk ci.mW), kit_self _, k _ _ _ st (.bl _) h1⟩
instance (priority := high) [ci : CI T K] [he : SE T te pe] : SE T (tCB (rIsi K) (tCons te (tCons (tC (.ref T.CG)) tNil))) (pIsG pe) where
  run := fun {c L H σ ρ P Q} s h k => he.run s h fun x d H1 st r h1 => by
    obtain ⟨⟨kk, ar, rfl⟩, h1⟩ := h1
    cases r with
    | @game a dx tt _ xs _ e1 e2 e3 => exact ⟨_, _, _, _, true, rfl, .own T.CG, .base (.ins (mask_some e1).2 ci.cG ci.aG ci.hn ci.tk ci.mG), kit_self _, k _ _ _ st (.bl _) h1⟩
end
/-! ### x[i], x | y by the class's own method -/
section
variable {X : Cx} {k : Nat} {f : Addr} {fd : FuncData} {ps : List Str} {sp : Sp}
theorem inv_inst {pins : List (Addr × Obj)} {σ : L2.St} {H : Hp} {s : Shared} {a C dx : Addr} {fs : List (Str × V)} (I : L2.Inv X pins σ H s) (e : H a = some (.ins C dx fs)) : ∃ od, PySem.W.InstAt s.heap a (PySem.W.instObj C dx) C (some od) := by
  obtain ⟨mA, O, _⟩ := ins_get I.hok e
  obtain ⟨od, J, _⟩ := O.look
  exact ⟨od, J⟩
/-- o[i] of an instance of C -/
def rIxO (C : Addr) (sp : Sp) (E : XK) : R2 := fun x y H Q => ∃ a dx fs, x = .ref a ∧ H a = some (.ins C dx fs) ∧ sp [x, y] H Q E
theorem pe_ixO {C : Addr} {ea eb : Expr} {ta tb : TE} {pos : Pos} (F : FnOk X.prog X.w X.K X.mg X.base CX0 k f fd ps sp) (hr : Room (k + 1) X.A) (hb : Binds X.K fd ps []) (hq : PySem.W.fnIn X.K f = true)
    (hs : PySem.W.findIn X.K (.ref C) "__getitem__" = some (some (.ref f))) (hf : PySem.W.isFn X.K (.ref f) = true) (ha : PE X ea ta) (hb2 : PE X eb tb)
    (hsl : ∀ o i, subscripted eb true o i = runValue (.builtin "lifetime.subscript" ⟨[o, i], []⟩)) : PE X (.Subscript ea eb pos) (tOp (rIxO C sp E0) ta tb) := by
  refine ⟨fun pins s0 σ H0 Q I0 h0 => Subscript_ (binT ha hb2 I0 h0 fun v u s x y H I rx ry h => ?_)⟩
  obtain ⟨a, dx, fs, rfl, ea, hsp⟩ := h
  cases rx
  obtain ⟨od, J⟩ := inv_inst I ea
  obtain ⟨m, F0⟩ := I.fr
  have r2 : Vals [V.ref a, y] [Value.ref a, u] := .cons rfl (.cons ry .nil)
  have hl : ([Value.ref a, u]).length = ps.length := by rw [← r2.length]; exact F.len _ _ _ _ hsp
  have z : wpAny (model X.prog X.w) X.A.in1 (call (.ref f) [.ref a, u]) (EP X pins σ Q) X.xe s := by
    refine wpAny_call (codeAny_mono (F.run X.A.in1 X.stack s H ⟨[.ref a, u], []⟩ [.ref a, u] [.ref a, y] Q E0 hr.in1 I.env0.in1 (by simpa using hb s [.ref a, u] I.kIn (by simpa using hl)) r2 hsp) fun r s' hq => ?_)
    cases r with
    | error e => exact False.elim hq
    | ok fl =>
      cases fl with
      | ret u => exact I.after hq
      | next => exact False.elim hq
      | brk => exact False.elim hq
      | cont => exact False.elim hq
  exact PySem.W.sub_K F0 I.mod.kin J hs hq hf z (hsl _ _)
/-- o | p of two instances of C -/
def rOrO (C : Addr) (sp : Sp) (E : XK) : R2 := fun x y H Q => ∃ a dx fs b dy gs, x = .ref a ∧ y = .ref b ∧ H a = some (.ins C dx fs) ∧ H b = some (.ins C dy gs) ∧ sp [x, y] H Q E
theorem op_own {C : Addr} {E : XK} (F : FnOk X.prog X.w X.K X.mg X.base CX0 k f fd ps sp) (hr : Room k X.A) (hb : Binds X.K fd ps []) (hE : Passes CX0 X E) (hc : PySem.W.selfFirst X.K C = true)
    (hs : PySem.W.findIn X.K (.ref C) "__or__" = some (some (.ref f))) (hf : PySem.W.isFn X.K (.ref f) = true) : OpR X (binaryOp .BitOr) (rOrO C sp E) := by
  intro pins s σ H x y v u Q I rx ry h
  obtain ⟨a, dx, fs, b, dy, gs, rfl, rfl, ea, eb, hsp⟩ := h
  cases rx
  cases ry
  obtain ⟨od, J⟩ := inv_inst I ea
  obtain ⟨od2, J2⟩ := inv_inst I eb
  obtain ⟨m, F0⟩ := I.fr
  refine PySem.W.binop_K (f := f) F0 I.mod.kin J J2.type hc hs hf ?_
  have z := run_fn F hr hb .nil hE I (us := [.ref a, .ref b]) (vs := [.ref a, .ref b]) (.cons rfl (.cons rfl .nil)) (by simpa using hsp)
  refine wpAny_mono z (fun r s' hq => ?_) fun _ _ e => e
  obtain ⟨z, H', I', rz, q⟩ := hq
  cases z with
  | non => cases rz; exact ⟨.non, H', I', rfl, q⟩
  | bl b => cases rz; exact ⟨.bl b, H', I', rfl, q⟩
  | int i => obtain ⟨t, rfl⟩ := rz; exact ⟨.int i, H', I', ⟨t, rfl⟩, q⟩
  | str i => obtain ⟨t, rfl⟩ := rz; exact ⟨.str i, H', I', ⟨t, rfl⟩, q⟩
  | byt i => obtain ⟨t, rfl⟩ := rz; exact ⟨.byt i, H', I', ⟨t, rfl⟩, q⟩
  | flt i => obtain ⟨t, rfl⟩ := rz; exact ⟨.flt i, H', I', ⟨t, rfl⟩, q⟩
  | ref a => cases rz; exact ⟨.ref a, H', I', rfl, q⟩
  | ty n => cases rz; exact ⟨.ty n, H', I', rfl, q⟩
end
section
variable {T : Tx}
@[reducible, simp] def qIxO (post : List D → (D → Prop) → Prop) : D → D → (D → Prop) → Prop := fun d e P => (∃ k ws, d = .game k ws) ∧ post [d, e] P
instance {post : List D → (D → Prop) → Prop} {E : XK} : SR T (rIxO T.CG (spD T post) E) (qIxO post) where
  run := fun {c L H σ ρ x y d e P Q} s rx ry h k => by
    obtain ⟨⟨kk, ws, rfl⟩, h⟩ := h
    cases id rx with
    | @game a dx tt _ xs _ e1 e2 e3 => exact ⟨a, dx, _, rfl, (mask_some e1).2, L ++ c.M, _, P, s.lst, .cons rx (.cons ry .nil), h, fun v d H' e r' q => k v d H' (.same e) r' q⟩
@[reducible, simp] def qOrO (post : List D → (D → Prop) → Prop) : D → D → (D → Prop) → Prop := fun d e P => (∃ k ws, d = .web k ws) ∧ (∃ k ws, e = .web k ws) ∧ post [d, e] P
instance {post : List D → (D → Prop) → Prop} {E : XK} : SR T (rOrO T.CW (spD T post) E) (qOrO post) where
  run := fun {c L H σ ρ x y d e P Q} s rx ry h k => by
    obtain ⟨⟨kk, ws, rfl⟩, ⟨k2, ws2, rfl⟩, h⟩ := h
    cases id rx with
    | @web a dx cc tt _ xs _ e1 e2 e3 =>
      cases id ry with
      | @web b dy c2 t2 _ ys _ g1 g2 g3 => exact ⟨a, dx, _, b, dy, _, rfl, rfl, (mask_some e1).2, (mask_some g1).2, L ++ c.M, _, P, s.lst, .cons rx (.cons ry .nil), h, fun v d H' e r' q => k v d H' (.same e) r' q⟩
end
end
end DL
/-! DL6: the text by places; uses of defs; more rules for the printed terms -/
namespace DL
open PySem L2 PyProof.Rows
noncomputable section
section
variable {T : Tx} {K : PySem.W.Frag} {te tb tf : TE} {pe pb pf : PE1} {ta : TA} {pa : PA1} {t : TS} {q : PS1}
/-- a + b: ints, lists, tuples -/
def rPlus (K : PySem.W.Frag) : R2 := fun x y H Q => rAddI x y H Q ∨ rCat x y H Q ∨ rCatA K x y H Q
theorem o_plus {X : Cx} : OpR X (binaryOp .Add) (rPlus X.K) := o_add.or (op_cat.or op_catA)
@[reducible, simp] def qPlus : D → D → (D → Prop) → Prop := fun d e P => (∃ i j, d = .int i ∧ e = .int j ∧ P (.int (i + j))) ∨
  (∃ ds es, d = .lst ds ∧ e = .lst es ∧ ds.length + es.length ≤ 10000 ∧ P (.lst (ds ++ es))) ∨ (∃ ds es, d = .tup ds ∧ e = .tup es ∧ ds.length + es.length ≤ 10000 ∧ P (.tup (ds ++ es)))
instance : SR T (rPlus K) qPlus where
  run := fun {c L H σ ρ x y d e P Q} s rx ry h k => by
    rcases h with h | h | h
    · exact .inl ((inferInstance : SR T rAddI (qI fun i j => .int (i + j))).run s rx ry h k)
    · refine .inr (.inl ?_)
      refine (inferInstance : SRF T rCat qCat).run (P := fun ds => P (.lst ds)) s rx ry h fun a xs ds H' st n e r q => k _ _ H' st ?_ q
      exact .lst (by rw [mask_out (s.fresh n)]; exact e) (r.mono (mask_sub fun b hb => List.mem_cons_of_mem _ hb))
    · exact .inr (.inr ((inferInstance : SR T (rCatA K) qCatT).run s rx ry h k))
/-- borrow for a new list -/
def tBorL (i : Nat) (te : TE) : TE := te
theorem pe_borL (i : Nat) {X : Cx} {e : Expr} (h : PE X e te) : PE X e (tBorL i te) := h
instance {i : Nat} {p : PA1} [he : SF T te p] : SF T (tBorL i te) (pBorF i p) := (inferInstance : SF T (tBorE i te) (pBorF i p))
/-- a list of the def's own is not changed any more -/
def tFrz (i : Nat) (ts : TS) : TS := ts
theorem ps_frz (i : Nat) {X : Cx} {st : Stmt} (h : PS X st t) : PS X st (tFrz i t) := h
@[reducible, simp] def qFrz (i : Nat) (q : PS1) : PS1 := fun ρ F => ∃ ds, ρ[i]? = some (some (.o ds)) ∧ q (ρ.set i (some (.v (.lst ds)))) F
instance {i : Nat} [h1 : SS T t q] : SS T (tFrz i t) (qFrz i q) where
  run := fun {c L H H0 σ ρ F D} s e f h o => by
    obtain ⟨ds, hi, h⟩ := h
    obtain ⟨L', hL, sb⟩ := s.bor hi
    exact h1.run sb e (fun b hb => f b (hL b hb)) h o
end
/-! ### uses -/
structure Use (P : Program) (w : World) (K : PySem.W.Frag) (mg : Str → Option Value) (base : Heap) (x : Str) (k : Nat) (ps : List Str) (sp : Sp) (f : Addr) (fd : FuncData) : Prop where
  ok : FnOk P w K mg base CX0 k f fd ps sp
  mg : mg x = some (.ref f)
  kp : PySem.W.keepIn K (.ref f) = true
  b : Binds K fd ps []
/-- the built-in names that the text uses are the built-in ones -/
structure Free (mg : Str → Option Value) : Prop where
  len : mg "len" = none
  list : mg "list" = none
  tuple : mg "tuple" = none
  int : mg "int" = none
  bool : mg "bool" = none
  sorted : mg "sorted" = none
  isinstance : mg "isinstance" = none
  set : mg "set" = none
  range : mg "range" = none
  enumerate : mg "enumerate" = none
  zip : mg "zip" = none
  all : mg "all" = none
  min : mg "min" = none
  repr : mg "repr" = none
section
variable {X : Cx} {k : Nat} {f : Addr} {fd : FuncData} {ps : List Str} {sp : Sp} {x : Str} {p pos : Pos} {e : Expr} {es : List Expr} {t : TA}
theorem pe_use (U : Use X.prog X.w X.K X.mg X.base x k ps sp f fd) (hr : Room k X.A) (hg : Gl X x) (ha : PA X (e :: es) t) (hdb : (x == ("__debug__" : Str)) = false := by decide)
    (he : starEach (e :: es) X.env = (false, eval e X.env) :: starEach es X.env := by rfl) (hpl : (backTo pos (starEach es X.env)).any (·.1) = false := by rfl) : PE X (.Call (.Name x p) (e :: es) [] pos) (tCall sp [] E0 t) :=
  pe_call U.ok hr hg U.mg U.kp U.b .nil pass0 ha hdb he hpl
end
theorem hu64 {A : Around} {k : Nat} (hr : Room k A) : A.units + 64 < cLine := hr.units
theorem hu65 {A : Around} {k : Nat} (hr : Room k A) : A.units + 65 < cLine := by have := hr.un; omega
theorem o_notTrue {X : Cx} : OpR X (compareOp .IsNot) rNotB0 := op_isnot_bl
/-! a def that hands back a new list -/
def spF (T : Tx) (post : List D → (List D → Prop) → Prop) : Sp := fun vs H Q _ => ∃ (S : List Addr) (ds : List D) (P : List D → Prop), (∀ a ∈ S, NT H a) ∧ RpA T (mask S H) vs ds ∧ post ds P ∧
  ∀ a xs es H', Same H H' → H a = none → H' a = some (.lst xs) → RpA T (mask (a :: S) H') xs es → P es → Q (.ref a) H'
section
variable {P : Program} {w : World} {K : PySem.W.Frag} {mg : Str → Option Value} {base : Heap} {T : Tx} {ta : TA} {pa : PA1}
@[reducible, simp] def pCallF (post : List D → (List D → Prop) → Prop) (pa : PA1) : PA1 := fun ρ P => pa ρ fun ds => post ds P
instance {post : List D → (List D → Prop) → Prop} {E : XK} [ha : SA T ta pa] : SF T (tCall (spF T post) [] E ta) (pCallF post pa) where
  run := fun {c L H σ ρ P Q} s h k => ha.run s h fun vs ds H1 st r h1 => by
    rw [List.append_nil]
    exact ⟨L ++ c.M, ds, P, (s.step st).lst, r, h1, fun a xs es H' e n ea r' q => k a xs es H' (st.trans (.same e)) (fresh_back (s.step st) st n) ea r' q⟩
def LeftF (T : Tx) (te : TE) (ρ : En) (F : List D → Prop) : Prop := ∃ q, SF T te q ∧ q ρ F
theorem LeftF.mk {T : Tx} {te : TE} {ρ : En} {F : List D → Prop} {q : PA1} [h : SF T te q] (hq : q ρ F) : LeftF T te ρ F := ⟨q, h, hq⟩
theorem okF {x qual : Str} {st : Stmt} {f : Addr} {fd : FuncData} {N ps : List Str} {k : Nat} {post : List D → (List D → Prop) → Prop} (F : FnP K x qual st f fd) (S : FnScope N ps (defScope st)) (len : ∀ ds P, post ds P → ds.length = ps.length)
    (body : ∀ (cdv : Value) (A : Around) (outer : List Env) (s : Shared) (H : Hp) (E : XK), Room k (A.deeper (envOfC qual (defScope st) s.heap.objs.size f cdv)) →
      ∃ te, PSs (cxOf CX0 P w K mg base N qual (defScope st) f cdv A outer s H E).nox (defBody st) (tRet te) ∧ ∀ ds P, post ds P → LeftF T te (argsOf ds N.length) P) : FnOk P w K mg base CX0 (k + 1) f fd ps (spF T post) := by
  refine F.ok S (fun vs H Q E hs => ?_) (fun cdv A outer s H vs Q E hr hs => ?_)
  · obtain ⟨S', ds, P', _, r, hp, _⟩ := hs
    rw [r.length]
    exact len ds P' hp
  · obtain ⟨te, hb, hl2⟩ := body cdv A outer s H E hr
    refine ⟨tRet te, hb.nox, ?_⟩
    obtain ⟨S', ds, P', hS, r, hp, hk⟩ := hs
    have hl := r.length
    have s0 := sok_start hS r (N.length - vs.length)
    obtain ⟨q, hq, h2⟩ := hl2 ds P' hp
    unfold argsOf at h2
    rw [← hl] at h2
    exact hq.run s0 h2 fun a xs es H' e n ea r' q => hk a xs es H' (fun b o z => e.keep b o (fun a ha => nomatch ha) z) n ea (by simpa using r') q
theorem bt_isinstance : bootBuiltins "isinstance" = some (.builtin "isinstance") := by decide +kernel
theorem bt_len : bootBuiltins "len" = some (.builtin "len") := by decide +kernel
theorem bt_list : bootBuiltins "list" = some (.type "list") := by decide +kernel
theorem bt_tuple : bootBuiltins "tuple" = some (.type "tuple") := by decide +kernel
theorem bt_int : bootBuiltins "int" = some (.type "int") := by decide +kernel
theorem bt_bool : bootBuiltins "bool" = some (.type "bool") := by decide +kernel
theorem bt_set : bootBuiltins "set" = some (.type "set") := by decide +kernel
theorem bt_sorted : bootBuiltins "sorted" = some (.builtin "sorted") := by decide +kernel
theorem bt_all : bootBuiltins "all" = some (.builtin "all") := by decide +kernel
theorem bt_min : bootBuiltins "min" = some (.builtin "min") := by decide +kernel
theorem bt_repr : bootBuiltins "repr" = some (.builtin "repr") := by decide +kernel
end
end
end DL
/-! DN: dicts whose keys are nested tuples of ints -/
namespace DL
open PySem L2 PyProof.Rows
noncomputable section
/-! ### a datum as a key -/
mutual
def D.toK : D → NestedKey
  | .int i => .num i
  | .tup ds => .tup (D.toKs ds)
  | .str x => .text x
  | .non => .none
  | .bl _ => .none
  | .lst _ => .none
  | .dct _ _ => .none
  | .web _ _ => .none
  | .game _ _ => .none
def D.toKs : List D → List NestedKey
  | [] => []
  | d :: ds => d.toK :: D.toKs ds
end
mutual
theorem toK_of : ∀ (d : D) (n : Nat), d.im = true → d.fit n = true → ofK d.toK = d ∧ d.toK.depth ≤ n
  | .int i, n, _, _ => ⟨by simp [D.toK, ofK], by simp [D.toK, NestedKey.depth]⟩
  | .tup ds, n, h, q => by
    simp only [D.im] at h
    simp only [D.fit, Bool.and_eq_true, decide_eq_true_eq] at q
    obtain ⟨h1, h2⟩ := toKs_of ds (n - 1) h q.2
    exact ⟨by simp [D.toK, ofK, h1], by simp only [D.toK, NestedKey.depth]; omega⟩
  | .str x, n, _, q => by simp [D.fit] at q
  | .non, n, _, q => by simp [D.fit] at q
  | .bl _, n, _, q => by simp [D.fit] at q
  | .lst _, n, h, _ => by simp [D.im] at h
  | .dct _ _, n, h, _ => by simp [D.im] at h
  | .web _ _, n, h, _ => by simp [D.im] at h
  | .game _ _, n, h, _ => by simp [D.im] at h
theorem toKs_of : ∀ (ds : List D) (n : Nat), D.imA ds = true → D.fitA ds n = true → ofKs (D.toKs ds) = ds ∧ NestedKey.depthAll (D.toKs ds) ≤ n
  | [], n, _, _ => ⟨by simp [D.toKs, ofKs], by simp [D.toKs, NestedKey.depthAll]⟩
  | d :: ds, n, h, q => by
    simp only [imA_cons, Bool.and_eq_true] at h
    simp only [fitA_cons, Bool.and_eq_true] at q
    obtain ⟨h1, h2⟩ := toK_of d n h.1 q.1
    obtain ⟨h3, h4⟩ := toKs_of ds n h.2 q.2
    exact ⟨by simp [D.toKs, ofKs, h1, h3], by simp only [D.toKs, NestedKey.depthAll]; omega⟩
end
mutual
theorem ofK_inj : ∀ (a b : NestedKey), ofK a = ofK b → a = b
  | .none, b, h => by cases b <;> simp [ofK] at h ⊢
  | .num i, b, h => by cases b <;> simp [ofK] at h ⊢; exact h
  | .text i, b, h => by cases b <;> simp [ofK] at h ⊢; exact h
  | .tup ks, b, h => by
    cases b with
    | tup ls => simp [ofK] at h; rw [ofKs_inj ks ls h]
    | _ => simp [ofK] at h
theorem ofKs_inj : ∀ (a b : List NestedKey), ofKs a = ofKs b → a = b
  | [], b, h => by cases b <;> simp [ofKs] at h ⊢
  | k :: ks, b, h => by
    cases b with
    | nil => simp [ofKs] at h
    | cons l ls => simp [ofKs] at h; rw [ofK_inj k l h.1, ofKs_inj ks ls h.2]
end
theorem ofKs_map (ks : List NestedKey) : ofKs ks = ks.map ofK := by
  induction ks with
  | nil => rfl
  | cons k ks ih => simp [ofKs, ih]
theorem mem_ofKs {k : NestedKey} {ks : List NestedKey} : ofK k ∈ ofKs ks ↔ k ∈ ks := by
  rw [ofKs_map, List.mem_map]
  exact ⟨fun ⟨l, h, e⟩ => ofK_inj _ _ e ▸ h, fun h => ⟨k, h, rfl⟩⟩
def D.key (d : D) : Bool := d.im && d.fit 8 && (match d with | .tup _ => true | _ => false)
theorem key_ex {d : D} (h : d.key = true) : ∃ ds k, d = .tup ds ∧ d = ofK k ∧ k.depth ≤ 8 := by
  unfold D.key at h
  simp only [Bool.and_eq_true] at h
  obtain ⟨⟨h1, h2⟩, h3⟩ := h
  obtain ⟨e1, e2⟩ := toK_of d 8 h1 h2
  cases d with
  | tup ds => exact ⟨ds, _, rfl, e1.symm, e2⟩
  | _ => simp at h3
@[simp] theorem key_tup (ds : List D) : (D.tup ds).key = (D.imA ds && D.fitA ds 7) := by simp [D.key]
/-! ### the dict's entries, by values and by data -/
abbrev NE := List (NestedKey × Addr × V)
def atN (es : NE) (k : NestedKey) : Option V := (es.find? fun x => decide (x.1 = k)).map (·.2.2)
def putN (es : NE) (k : NestedKey) (b : Addr) (v : V) : NE := if (atN es k).isSome then es.map (fun x => if x.1 = k then (x.1, x.2.1, v) else x) else es ++ [(k, b, v)]
def lkD : List D → List D → D → Option D
  | k :: ks, v :: vs, x => if k = x then some v else lkD ks vs x
  | _, _, _ => none
def upD : List D → List D → D → D → List D
  | k :: ks, v :: vs, x, z => (if k = x then z else v) :: upD ks vs x z
  | _, vs, _, _ => vs
def putK1 (ks : List D) (x : D) : List D := if x ∈ ks then ks else ks ++ [x]
def putV1 (ks vs : List D) (x z : D) : List D := if x ∈ ks then upD ks vs x z else vs ++ [z]
abbrev RN : (NestedKey × Addr × V) → (NestedKey × Addr × Value) → Prop := fun p q => p.1 = q.1 ∧ p.2.1 = q.2.1 ∧ RelV p.2.2 q.2.2
theorem rn_at {k : NestedKey} : ∀ {es : NE} {ys : List (NestedKey × Addr × Value)}, Paired RN es ys → RelO (atN es k) ((atKey ys k).map (·.2))
  | _, _, .nil => True.intro
  | (a, b, v) :: es, (a', b', v') :: ys, .cons ⟨h1, h2, h3⟩ t => by
    subst h1
    unfold atN atKey
    rw [List.find?_cons, List.find?_cons]
    by_cases e : a = k
    · simp only [e, decide_true]
      exact h3
    · simp only [e, decide_false]
      exact rn_at t
theorem rn_append : ∀ {es es' : NE} {ys ys' : List (NestedKey × Addr × Value)}, Paired RN es ys → Paired RN es' ys' → Paired RN (es ++ es') (ys ++ ys')
  | _, _, _, _, .nil, s => s
  | _, _, _, _, .cons r t, s => .cons r (rn_append t s)
theorem rn_map {k : NestedKey} {v : V} {u : Value} (r : RelV v u) : ∀ {es : NE} {ys : List (NestedKey × Addr × Value)}, Paired RN es ys → Paired RN (es.map fun x => if x.1 = k then (x.1, x.2.1, v) else x) (ys.map (putAt k u))
  | _, _, .nil => .nil
  | (a, b, w) :: es, (a', b', w') :: ys, .cons ⟨h1, h2, h3⟩ t => by
    subst h1
    refine .cons ?_ (rn_map r t)
    show RN (if a = k then (a, b, v) else (a, b, w)) (if a = k then (a, b', u) else (a, b', w'))
    by_cases e : a = k
    · rw [if_pos e, if_pos e]; exact ⟨rfl, h2, r⟩
    · rw [if_neg e, if_neg e]; exact ⟨rfl, h2, h3⟩
theorem RelO.isSome_eq {a : Option V} {b : Option Value} (h : RelO a b) : a.isSome = b.isSome := by
  cases a <;> cases b <;> first | rfl | exact h.elim
theorem rn_put {es : NE} {ys : List (NestedKey × Addr × Value)} {k : NestedKey} {b : Addr} {v : V} {u : Value} (r : Paired RN es ys) (rv : RelV v u) : Paired RN (putN es k b v) (storedH ys k b u) := by
  have h := (rn_at (k := k) r).isSome_eq
  rw [Option.isSome_map] at h
  unfold putN storedH
  rw [h]
  split
  · exact rn_map rv r
  · exact rn_append r (.cons ⟨rfl, rfl, rv⟩ .nil)
/-! ### by data -/
section
variable {T : Tx} {H : Hp}
theorem at_data {k : NestedKey} : ∀ {es : NE} {vs : List D}, RpA T H (es.map (·.2.2)) vs → (atN es k).isSome = decide (ofK k ∈ ofKs (es.map (·.1))) ∧ (∀ d, lkD (ofKs (es.map (·.1))) vs (ofK k) = some d → ∃ v, atN es k = some v ∧ Rp T H v d)
  | [], _, r => by
    cases r
    exact ⟨by simp [atN, ofKs], fun d h => by simp [lkD, ofKs] at h⟩
  | (a, b, v) :: es, _, r => by
    cases r with
    | @cons _ d _ vs r1 r2 =>
      obtain ⟨h1, h2⟩ := at_data (k := k) r2
      by_cases e : a = k
      · subst e
        refine ⟨by simp [atN, ofKs], fun x h => ?_⟩
        simp [lkD, ofKs] at h
        subst h
        exact ⟨v, by simp [atN], r1⟩
      · have ne : ¬ ofK a = ofK k := fun q => e (ofK_inj _ _ q)
        have ea : atN ((a, b, v) :: es) k = atN es k := by simp [atN, List.find?_cons, e]
        rw [ea]
        refine ⟨?_, fun x h => ?_⟩
        · rw [h1]
          simp only [List.map_cons, ofKs, List.mem_cons]
          have ne' : ¬ ofK k = ofK a := fun q => ne q.symm
          simp [ne']
        · simp only [List.map_cons, ofKs, lkD] at h
          rw [if_neg ne] at h
          exact h2 x h
theorem put_data {k : NestedKey} {z : D} {v : V} (rv : Rp T H v z) : ∀ {es : NE} {vs : List D}, RpA T H (es.map (·.2.2)) vs → RpA T H ((es.map fun x => if x.1 = k then (x.1, x.2.1, v) else x).map (·.2.2)) (upD (ofKs (es.map (·.1))) vs (ofK k) z)
  | [], _, r => by cases r; simp [ofKs, upD]; exact .nil
  | (a, b, w) :: es, _, r => by
    cases r with
    | @cons _ d _ vs r1 r2 =>
      simp only [List.map_cons, ofKs, upD]
      by_cases e : a = k
      · subst e
        rw [if_pos rfl, if_pos rfl]
        exact .cons rv (put_data rv r2)
      · rw [if_neg e, if_neg fun q => e (ofK_inj _ _ q)]
        exact .cons r1 (put_data rv r2)
theorem keys_put (es : NE) (k : NestedKey) (v : V) : ((es.map fun x => if x.1 = k then (x.1, x.2.1, v) else x).map (·.1)) = es.map (·.1) ∧ ((es.map fun x => if x.1 = k then (x.1, x.2.1, v) else x).map fun e => V.ref e.2.1) = es.map fun e => V.ref e.2.1 := by
  rw [List.map_map, List.map_map]
  constructor
  · refine List.map_congr_left fun x _ => ?_
    show (if x.1 = k then _ else x).1 = x.1
    split <;> rfl
  · refine List.map_congr_left fun x _ => ?_
    show V.ref (if x.1 = k then _ else x).2.1 = _
    split <;> rfl
theorem ofKs_append (a b : List NestedKey) : ofKs (a ++ b) = ofKs a ++ ofKs b := by rw [ofKs_map, ofKs_map, ofKs_map, List.map_append]
theorem DnE.put {es : NE} {ks vs : List D} {k : NestedKey} {b : Addr} {v : V} {z : D} (h : DnE T H es ks vs) (hk : Rp T H (.ref b) (ofK k)) (hd : k.depth ≤ 8) (rv : Rp T H v z) : DnE T H (putN es k b v) (putK1 ks (ofK k)) (putV1 ks vs (ofK k) z) := by
  obtain ⟨rfl, h2, h3, h4⟩ := h
  obtain ⟨q1, _⟩ := at_data (k := k) h4
  unfold putN putK1 putV1
  by_cases e : ofK k ∈ ofKs (es.map (·.1))
  · rw [if_pos e, if_pos e, if_pos (by rw [q1]; exact decide_eq_true e)]
    obtain ⟨e1, e2⟩ := keys_put es k v
    refine ⟨by rw [e1], fun x hx => ?_, by rw [e2]; exact h3, put_data rv h4⟩
    obtain ⟨y, hy, rfl⟩ := List.mem_map.mp hx
    split
    · exact h2 y hy
    · exact h2 y hy
  · rw [if_neg e, if_neg e, if_neg (by rw [q1, decide_eq_false e]; exact Bool.false_ne_true)]
    refine ⟨by rw [List.map_append, ofKs_append]; rfl, fun x hx => ?_, ?_, ?_⟩
    · rcases List.mem_append.mp hx with hx | hx
      · exact h2 x hx
      · rw [List.mem_singleton.mp hx]; exact hd
    · rw [List.map_append]
      exact h3.append (.cons hk .nil)
    · rw [List.map_append]
      exact h4.append (.cons rv .nil)
end
theorem putK1_len (ks : List D) (x : D) : (putK1 ks x).length ≤ ks.length + 1 := by
  unfold putK1
  split
  · omega
  · simp
theorem mem_putK1 {ks : List D} {x y : D} : y ∈ putK1 ks x ↔ y ∈ ks ∨ y = x := by
  unfold putK1
  split
  · rename_i h
    exact ⟨.inl, fun q => q.elim id fun e => e ▸ h⟩
  · rw [List.mem_append, List.mem_singleton]
theorem putK1_nodup {ks : List D} {x : D} (h : ks.Nodup) : (putK1 ks x).Nodup := by
  unfold putK1
  split
  · exact h
  · rename_i hx
    rw [List.nodup_append]
    exact ⟨h, by simp, fun a ha b hb => by rw [List.mem_singleton.mp hb]; exact fun e => hx (e ▸ ha)⟩
/-! ### what the heap says -/
section
variable {X : Cx} {T : Tx} {pins : List (Addr × Obj)} {σ : L2.St} {H : Hp} {s : Shared}
mutual
theorem nis (I : L2.Inv X pins σ H s) : ∀ (k : NestedKey) {v : V} {u : Value}, Rp T H v (ofK k) → RelV v u → NestedIs s.heap k u
  | .none, _, _, r, e => by
    simp only [ofK] at r
    cases r
    cases e
    exact .none
  | .num i, _, _, r, e => by
    simp only [ofK] at r
    cases r
    obtain ⟨t, rfl⟩ := e
    exact .int i t
  | .text x, _, _, r, e => by
    simp only [ofK] at r
    cases r
    obtain ⟨t, rfl⟩ := e
    exact .text x t
  | .tup ks, _, _, r, e => by
    simp only [ofK] at r
    cases r with
    | @tup a xs _ h1 h2 =>
      cases e
      obtain ⟨its, rv, ⟨o, ho, hc, n, hd⟩, hz⟩ := I.tuple (SqT.of h1)
      exact .tup ho hc hd (niss I ks h2 rv)
theorem niss (I : L2.Inv X pins σ H s) : ∀ (ks : List NestedKey) {vs : List V} {us : List Value}, RpA T H vs (ofKs ks) → Vals vs us → NestedAll s.heap ks us
  | [], _, _, r, e => by
    simp only [ofKs] at r
    cases r
    cases e
    exact .nil
  | k :: ks, _, _, r, e => by
    simp only [ofKs] at r
    cases r with
    | cons r1 r2 =>
      cases e with
      | cons e1 e2 => exact .cons (nis I k r1 e1) (niss I ks r2 e2)
end
theorem isall (I : L2.Inv X pins σ H s) : ∀ {es : NE} {ys : List (NestedKey × Addr × Value)}, Paired RN es ys → RpA T H (es.map fun e => V.ref e.2.1) (ofKs (es.map (·.1))) → (∀ e ∈ es, e.1.depth ≤ 8) → ∀ y ∈ ys, NestedIs s.heap y.1 (.ref y.2.1) ∧ y.1.depth ≤ 8
  | _, _, .nil, _, _, y, hy => nomatch hy
  | (a, b, v) :: es, (a', b', v') :: ys, .cons ⟨h1, h2, h3⟩ t, r, hd, y, hy => by
    subst h1 h2
    simp only [List.map_cons, ofKs] at r
    cases r with
    | cons r1 r2 =>
      rcases List.mem_cons.mp hy with rfl | hy
      · exact ⟨nis I _ r1 rfl, hd _ List.mem_cons_self⟩
      · exact isall I t r2 (fun e he => hd e (List.mem_cons_of_mem _ he)) y hy
theorem dn_of (I : L2.Inv X pins σ H s) (hT : X.prog = T.prog ∧ X.w = T.w) {a : Addr} {ep : Nat} {es : NE} {ks vs : List D} (h : H a = some (DnO T a es ep)) (e : DnE T H es ks vs) :
    es.length ≤ sizeLine ∧ (a == sysModules) = false ∧ ∃ ys, Paired RN es ys ∧ s.heap.DictOfH (nestedKind X.prog X.w) a ys := by
  obtain ⟨⟨h1, h2, ys, h3, o, es', h4, h5, h6, h7, h8⟩, _, _⟩ := I.hok a _ h
  have rk := e.rk
  rw [e.hk] at rk
  refine ⟨h1, h2, ys, h3, o, es', ep, h4, h5, h6, ?_, isall I h3 rk e.dp, h8⟩
  rw [hT.1, hT.2]
  exact h7
theorem dn_new {P : Program} {w : World} {a : Addr} {es : NE} {h' : Heap} {H' : Hp} {ys : List (NestedKey × Addr × Value)} (hl : es.length ≤ sizeLine) (hs : (a == sysModules) = false) (r : Paired RN es ys) (d : h'.DictOfH (nestedKind T.prog T.w) a ys) : ∃ ep, ObjOk P w H' h' a (DnO T a es ep) := by
  obtain ⟨o, es', ep, h4, h5, h6, h7, _, h8⟩ := d
  refine ⟨ep, ⟨hl, hs, ys, r, o, es', h4, h5, h6, h7, h8⟩, ⟨o, h4⟩, ?_⟩
  rintro g1 g2 ⟨q1, q2, ys', q3, o', es2, q4, q5⟩ k
  exact ⟨q1, q2, ys', q3, o', es2, k _ q4, q5⟩
end
/-! ### rules -/
section
variable {X : Cx} {T : Tx}
/-- y in d, y not in d -/
def rInN (T : Tx) (neg : Bool) : R2 := fun y x H Q => ∃ a b es ks vs k, y = .ref b ∧ x = .ref a ∧ (∃ ep, H a = some (DnO T a es ep)) ∧ DnE T H es ks vs ∧ Rp T H (.ref b) (ofK k) ∧ k.depth ≤ 8 ∧ Q (.bl (if neg then !(atN es k).isSome else (atN es k).isSome)) H
theorem room8 {A : Around} (hu : A.units + 64 < cLine) : A.in1.units + 8 < cLine := by
  show A.units + 1 + 8 < cLine
  omega
theorem o_inN (hT : X.prog = T.prog ∧ X.w = T.w) (hu : X.A.units + 64 < cLine) : OpR X (compareOp .In) (rInN T false) := by
  intro pins s σ H y x u v Q I ry rx h
  obtain ⟨a, b, es, ks, vs, k, rfl, rfl, ⟨ep, ha⟩, he, hk, hd, q⟩ := h
  cases ry
  cases rx
  obtain ⟨_, hs, ys, r, dd⟩ := dn_of I hT ha he
  refine wpAny_in_heap (knd := nestedKind X.prog X.w) (room8 hu) ⟨nis I k hk rfl, hd⟩ hs dd ⟨.bl (atN es k).isSome, H, I.tok _, ?_, q⟩
  have e := (rn_at (k := k) r).isSome_eq
  rw [Option.isSome_map] at e
  rw [e]
  exact rfl
theorem o_notInN (hT : X.prog = T.prog ∧ X.w = T.w) (hu : X.A.units + 64 < cLine) : OpR X (compareOp .NotIn) (rInN T true) := by
  intro pins s σ H y x u v Q I ry rx h
  obtain ⟨a, b, es, ks, vs, k, rfl, rfl, ⟨ep, ha⟩, he, hk, hd, q⟩ := h
  cases ry
  cases rx
  obtain ⟨_, hs, ys, r, dd⟩ := dn_of I hT ha he
  refine wpAny_notIn_heap (knd := nestedKind X.prog X.w) (room8 hu) ⟨nis I k hk rfl, hd⟩ hs dd ⟨.bl (!(atN es k).isSome), H, I.tok _, ?_, q⟩
  have e := (rn_at (k := k) r).isSome_eq
  rw [Option.isSome_map] at e
  rw [e]
  exact rfl
/-- d[y] -/
def rIxN (T : Tx) : R2 := fun x y H Q => ∃ a b es ks vs k v, y = .ref b ∧ x = .ref a ∧ (∃ ep, H a = some (DnO T a es ep)) ∧ DnE T H es ks vs ∧ Rp T H (.ref b) (ofK k) ∧ k.depth ≤ 8 ∧ atN es k = some v ∧ Q v H
theorem ix_dictN (hT : X.prog = T.prog ∧ X.w = T.w) (hu : X.A.units + 64 < cLine) : IxR X (rIxN T) := by
  intro value slice pins s σ H x y v u Q I rx ry h hs
  obtain ⟨a, b, es, ks, vs, k, z, rfl, rfl, ⟨ep, ha⟩, he, hk, hd, hz, q⟩ := h
  cases rx
  cases ry
  obtain ⟨_, _, ys, r, dd⟩ := dn_of I hT ha he
  have e := rn_at (k := k) r
  rw [hz] at e
  cases hw : (atKey ys k).map (·.2) with
  | none => rw [hw] at e; exact e.elim
  | some z' =>
    rw [hw] at e
    obtain ⟨p, hp, hp2⟩ := Option.map_eq_some_iff.mp hw
    subst hp2
    unfold subscriptTail
    refine wpAny_bind ?_
    rw [getitemInPython_of_ne dd.typeIs.not_modules]
    refine wpAny_bind (wpAny_specialOf dd.typeIs PySem.F.slot_dict_getitem.lookup ?_)
    have fin : wpAny (model X.prog X.w) X.A (subscripted slice false (.ref a) (.ref b)) (fun r s₃ => wpAny (model X.prog X.w) X.A (letTemporaryGo value (.ref a) r >>= fun _ => pure r) (EP X pins σ Q) X.xe s₃) X.xe s := by
      rw [hs]
      exact wpAny_operating (wpAny_getItem_heap (knd := nestedKind X.prog X.w) (room8 hu) ⟨nis I k hk rfl, hd⟩ dd hp (wpAny_bind (wpAny_letTemporaryGo (wpAny_pure ⟨z, H, I.tok _, e, q⟩))))
    first
      | exact wpAny_pure (wpAny_bind fin)
      | exact wpAny_bind (wpAny_pure (wpAny_bind fin))
      | exact wpAny_bind fin
/-- d[y] = v -/
def rSetN (T : Tx) : V → V → V → Hp → (Hp → Prop) → Prop := fun o i v H Q => ∃ a b es ks vs k, o = .ref a ∧ i = .ref b ∧ (∃ ep, H a = some (DnO T a es ep)) ∧ DnE T H es ks vs ∧ Rp T H (.ref b) (ofK k) ∧ k.depth ≤ 8 ∧ es.length < sizeLine ∧ ∀ ep, Q (upd H a (DnO T a (putN es k b v) ep))
theorem putN_len (es : NE) (k : NestedKey) (b : Addr) (v : V) : (putN es k b v).length ≤ es.length + 1 := by
  unfold putN
  split <;> simp
theorem set_dictN (hT : X.prog = T.prog ∧ X.w = T.w) (hu : X.A.units + 64 < cLine) : PSet X (rSetN T) := by
  intro pins s σ H o i v ov iv u Q I ro ri rv h
  obtain ⟨a, b, es, ks, vs, k, rfl, rfl, ⟨ep, ha⟩, he, hk, hd, hl, q⟩ := h
  cases ro
  cases ri
  obtain ⟨_, hs, ys, r, dd⟩ := dn_of I hT ha he
  have hz : ys.length ≤ sizeLine := by rw [← Paired.length r]; omega
  refine wpAny_setItem_heap (knd := nestedKind X.prog X.w) (hsz := hz) (room8 hu) ⟨nis I k hk rfl, hd⟩ dd fun h' dd' hs' => ?_
  have hl2 : (putN es k b v).length ≤ sizeLine := by have := putN_len es k b v; omega
  have dd2 : h'.DictOfH (nestedKind T.prog T.w) a (storedH ys k b u) := by rw [← hT.1, ← hT.2]; exact dd'
  have new : ∃ ep', ∀ H', ObjOk X.prog X.w H' h' a (DnO T a (putN es k b v) ep') := by
    obtain ⟨o, es', ep', h4, h5, h6, h7, h8⟩ := dd2
    exact ⟨ep', fun H' => ⟨⟨hl2, hs, _, rn_put r rv, o, es', h4, h5, h6, h7, h8.2⟩, ⟨o, h4⟩, fun g1 g2 ⟨q1, q2, ys', q3, o', es2, q4, q5⟩ k => ⟨q1, q2, ys', q3, o', es2, k _ q4, q5⟩⟩⟩
  obtain ⟨ep', new⟩ := new
  exact ⟨_, d_write I (by rw [ha]; exact True.intro) hs' (let ⟨q, _, _, hq, _⟩ := dd'; ⟨q, hq⟩) (new _), q ep'⟩
/-- {} -/
def tNewN (T : Tx) : TE := fun _ H Q => ∀ p, H p = none → Q (.ref p) (upd H p (DnO T p [] 0))
theorem pe_newN {pos : Pos} : PE X (.Dict [] [] pos) (tNewN T) := ⟨fun pins s σ H Q I h =>
  wpAny_Dict_empty ⟨.ref s.heap.objs.size, _, I.laid (a := s.heap.objs.size) (o := DnO T s.heap.objs.size [] 0) (t' := s.toks) (fun _ _ q => Heap.get?_push_of_some _ q) (Nat.le_refl _)
    ⟨⟨Nat.zero_le _, beq_eq_false_iff_ne.mpr (Ne.symm (Nat.ne_of_lt I.big)), [], .nil, _, #[], Heap.get?_push_size _ rfl, ⟨rfl, rfl, rfl⟩, rfl, rfl, List.nodup_nil⟩, ⟨_, Heap.get?_push_size _ rfl⟩,
      fun g1 g2 ⟨q1, q2, ys', q3, o', es2, q4, q5⟩ k => ⟨q1, q2, ys', q3, o', es2, k _ q4, q5⟩⟩, rfl, h _ (I.hok.fresh (Nat.le_refl _))⟩⟩
/-- d.get(y, z) -/
def tGetN (T : Tx) (td ty tz : TE) : TE := fun σ H Q => td σ H fun x H1 => ∃ a es, x = .ref a ∧ (∃ ep, H1 a = some (DnO T a es ep)) ∧ (∃ ks vs, DnE T H1 es ks vs) ∧ ty σ H1 fun y H2 => tz σ H2 fun z H3 => ∃ b es ks vs k, y = .ref b ∧ (∃ ep, H3 a = some (DnO T a es ep)) ∧ DnE T H3 es ks vs ∧ Rp T H3 (.ref b) (ofK k) ∧ k.depth ≤ 8 ∧ Q ((atN es k).getD z) H3
theorem pe_getN {o e f : Expr} {apos cpos : Pos} {td ty tz : TE} (hT : X.prog = T.prog ∧ X.w = T.w) (hu : X.A.units + 64 < cLine) (ho : PE X o td) (he : PE X e ty) (hf : PE X f tz) (m : M2 X o "get" apos e f cpos) : PE X (.Call (.Attribute o "get" apos) [e, f] [] cpos) (tGetN T td ty tz) := by
  refine ⟨fun pins s σ H Q I h => ?_⟩
  refine wpAny_Call_method m.base m.few m.line PySem.F.plainAttrs_dict PySem.F.slot_dict_get PySem.F.type_dict_get (thn (ho.run pins s σ H _ I h) fun u s1 ⟨x, H1, I1, rx, a, es, ex, ⟨ep, ha⟩, ⟨ks, vs, hE⟩, q1⟩ => ?_)
  subst ex
  obtain rfl : u = Value.ref a := rx
  obtain ⟨_, hs, ys, r, dd⟩ := dn_of I1 hT ha hE
  refine ⟨dd.typeIs, fun b q => ?_, ?_⟩
  · cases q
    obtain ⟨ob, _, _, h1, h2, _⟩ := dd
    exact ⟨ob, h1, h2.2.1⟩
  rw [m.trees]
  refine Calls.callWith_builtin rfl (Calls.evalArgs_plain (Calls.spliced_cons (thn (he.run pins s1 σ H1 _ I1 q1) fun iv s2 ⟨y, H2, I2, ry, q2⟩ =>
    Calls.spliced_cons (thn (hf.run pins s2 σ H2 _ I2 q2) fun fv s3 ⟨z, H3, I3, rz, b, es, ks, vs, k, ey, ⟨ep, ha⟩, hE, hk, hd, q3⟩ => Calls.spliced_nil ?_))))
  subst ey
  obtain rfl : iv = Value.ref b := ry
  obtain ⟨_, hs, ys, r, dd⟩ := dn_of I3 hT ha hE
  refine call_meetsIn PySem.F.slot_dict_get dd.typeIs PySem.F.entry_dict_get (PySem.F.args_dict_get_3 _ _ _) (meetsH_dict_get_default (nestedKind X.prog X.w) a b hs fv) ⟨room8 hu, k, ys, ⟨nis I3 k hk rfl, hd⟩, dd, ⟨_, H3, I3.tok _, ?_, q3⟩⟩
  have e := rn_at (k := k) r
  cases ha2 : atN es k with
  | none =>
    rw [ha2] at e
    cases hw : (atKey ys k).map (·.2) with
    | none => exact rz
    | some z' => rw [hw] at e; exact e.elim
  | some v =>
    rw [ha2] at e
    cases hw : (atKey ys k).map (·.2) with
    | none => rw [hw] at e; exact e.elim
    | some z' => rw [hw] at e; exact e
end
/-! ### by plain data -/
section
variable {T : Tx} {te : TE} {pe : PE1}
@[reducible, simp] def qInN (neg : Bool) : D → D → (D → Prop) → Prop := fun d e P => ∃ ks vs, e = .dct ks vs ∧ d.key = true ∧ P (.bl (if neg then !decide (d ∈ ks) else decide (d ∈ ks)))
theorem Rp.dct_inv {H : Hp} {v : V} {ks vs : List D} (r : Rp T H v (.dct ks vs)) : ∃ a es, v = .ref a ∧ (∃ ep, H a = some (DnO T a es ep)) ∧ DnE T H es ks vs := by
  cases r with
  | dct h1 h2 h3 h4 h5 => exact ⟨_, _, rfl, ⟨_, h1⟩, h2, h3, h4, h5⟩
theorem Rp.tup_inv {H : Hp} {v : V} {ds : List D} (r : Rp T H v (.tup ds)) : ∃ a xs, v = .ref a ∧ H a = some (.tup xs) ∧ RpA T H xs ds := by
  cases r with
  | tup h1 h2 => exact ⟨_, _, rfl, h1, h2⟩
instance {neg : Bool} : SR T (rInN T neg) (qInN neg) where
  run := fun {c L H σ ρ x y d e P Q} s rx ry h' k => by
    obtain ⟨ks, vs, rfl, hk, q⟩ := h'
    obtain ⟨a, es, rfl, ⟨ep, ha⟩, he⟩ := ry.dct_inv
    obtain ⟨ds, kk, rfl, ek, hd⟩ := key_ex hk
    obtain ⟨b, xs, rfl, _, _⟩ := rx.tup_inv
    have he' := he.mono (mask_le _ H)
    obtain ⟨q1, _⟩ := at_data (k := kk) he'.rv
    refine ⟨a, b, es, ks, vs, kk, rfl, rfl, ⟨ep, (mask_some ha).2⟩, he', by rw [← ek]; exact rx.full, hd, ?_⟩
    have hk2 := he.hk
    subst hk2
    rw [q1, ← ek]
    exact k _ _ _ (Stp.refl _ _) (.bl _) q
@[reducible, simp] def qIxN : D → D → (D → Prop) → Prop := fun d e P => ∃ ks vs z, d = .dct ks vs ∧ e.key = true ∧ lkD ks vs e = some z ∧ P z
instance : SR T (rIxN T) qIxN where
  run := fun {c L H σ ρ x y d e P Q} s rx ry h' k => by
    obtain ⟨ks, vs, z, rfl, hk, hz, q⟩ := h'
    obtain ⟨a, es, rfl, ⟨ep, ha⟩, he⟩ := rx.dct_inv
    obtain ⟨ds, kk, rfl, ek, hd⟩ := key_ex hk
    obtain ⟨b, xs, rfl, _, _⟩ := ry.tup_inv
    have he' := he.mono (mask_le _ H)
    obtain ⟨_, q2⟩ := at_data (k := kk) he.rv
    have hk2 := he.hk
    subst hk2
    rw [ek] at hz
    obtain ⟨v, hv, rv⟩ := q2 z hz
    exact ⟨a, b, es, _, vs, kk, v, rfl, rfl, ⟨ep, (mask_some ha).2⟩, he', by rw [← ek]; exact ry.full, hd, hv, k _ _ _ (Stp.refl _ _) rv q⟩
/-- x = {} -/
@[reducible, simp] def qNewN (i : Nat) : PS1 := fun ρ F => F.nx (ρ.set i (some (.od [] [])))
instance (priority := high) {i : Nat} : SS T (tAsg (tNewN T) (gOwn i)) (qNewN i) where
  run := fun {c L H H0 σ ρ F D} s e f h o => fun p hp => by
    have st : Stp c H (upd H p (DnO T p [] 0)) := .same (Same.new hp)
    have S := s.setk (i := i) (A := [p]) (k := .od [] []) (v := .ref p) st (fun b hb => by rw [List.mem_singleton.mp hb]; exact hp) (fun b hb => by rw [List.mem_singleton.mp hb]; exact ⟨_, upd_same, fun _ e => nomatch e⟩)
      ⟨p, [], rfl, List.mem_cons_self, ⟨0, upd_same⟩, ⟨rfl, fun _ h => (nomatch h), .nil, .nil⟩⟩ fun b hb => hb
    refine o.nx _ _ _ _ S (e.trans st) (fun b hb => ?_) h
    rcases List.mem_cons.mp hb with rfl | hb
    · exact Stp.new_none s e hp
    · exact f b hb
/-- d[y] = e, d of the def's own -/
@[reducible, simp] def qSetN (i : Nat) (pi pe : PE1) : PS1 := fun ρ F => pe ρ fun d => ∃ ks vs, ρ[i]? = some (some (.od ks vs)) ∧ pi ρ fun z => z.key = true ∧ ks.length < 10000 ∧ F.nx (ρ.set i (some (.od (putK1 ks z) (putV1 ks vs z d))))
theorem DnE.len {H : Hp} {es : NE} {ks vs : List D} (h : DnE T H es ks vs) : es.length = ks.length := by
  have := h.rk.length
  rw [List.length_map] at this
  exact this
instance (priority := high) {i : Nat} {ti : TE} {pi : PE1} [he : SE T te pe] [hx : SE T ti pi] : SS T (tAsg te (gSub (tVar i) ti (rSetN T))) (qSetN i pi pe) where
  run := fun {c L H H0 σ ρ F D} s e f h o => he.run s h fun v d H' st r h1 => by
    have S := s.step st
    obtain ⟨ks, vs, hi, h1⟩ := h1
    obtain ⟨a, es, g1, g2, ⟨ep, g3⟩, g4⟩ := S.ownd i ks vs hi
    refine ⟨_, g1, hx.run S h1 fun z dz H2 st2 r2 h2 => ?_⟩
    obtain ⟨hk, hl, h2⟩ := h2
    have S2 := S.step st2
    have g4' := g4.mono (st2.mask s.ok)
    obtain ⟨ds, kk, rfl, ek, hd⟩ := key_ex hk
    obtain ⟨b, xs, rfl, _, _⟩ := r2.tup_inv
    have rk : Rp T (mask (L ++ c.M) H2) (.ref b) (ofK kk) := by rw [← ek]; exact r2
    have g3' := st2.keep a _ (s.nodr g2) g3
    refine ⟨a, b, es, ks, vs, kk, rfl, rfl, ⟨ep, g3'⟩, g4'.mono (mask_le _ _), rk.full, hd, by rw [g4.len]; exact Nat.lt_of_lt_of_le hl (by decide), fun ep' => ?_⟩
    have new := g4'.put rk hd (r.mono (st2.mask s.ok))
    rw [← ek] at new
    have S3 := S2.alt (A := []) (k' := .od (putK1 ks (.tup ds)) (putV1 ks vs (.tup ds) d)) (H' := upd H2 a (DnO T a (putN es kk b v) ep')) hi g1 (fun _ z => nomatch z) (fun _ z => nomatch z)
      (fun x hx => by rw [show x = a from by simpa [Kn.adr] using hx]; exact ⟨_, upd_same, fun _ e => nomatch e⟩) (fun x _ hx => upd_ne (by simpa [Kn.adr] using hx))
      ⟨a, _, rfl, g2, ⟨ep', upd_same⟩, by show DnE T (mask (L ++ c.M) _) _ _ _; rw [mask_chg (List.mem_append_left _ g2)]; exact new⟩ fun x hx => .inr hx
    exact o.nx _ _ _ _ S3 (Stp.chg S2 (e.trans (st.trans st2)) f g2) f h2
/-- d.get(y, z) -/
@[reducible, simp] def pGetN (pd py pz : PE1) : PE1 := fun ρ P => pd ρ fun d => ∃ ks vs, d = .dct ks vs ∧ py ρ fun y => pz ρ fun z => y.key = true ∧ (ks.length = vs.length ∧ P ((lkD ks vs y).getD z))
theorem lk_none {ks vs : List D} {x : D} : ∀ (h : ks.length = vs.length), lkD ks vs x = none → x ∉ ks := by
  induction ks generalizing vs with
  | nil => simp
  | cons k ks ih =>
    intro h
    cases vs with
    | nil => simp at h
    | cons v vs =>
      unfold lkD
      split
      · intro e; cases e
      · rename_i ne
        intro e
        simp only [List.mem_cons, not_or]
        exact ⟨fun z => ne z.symm, ih (by simpa using h) e⟩
instance {td ty tz : TE} {pd py pz : PE1} [h1 : SE T td pd] [h2 : SE T ty py] [h3 : SE T tz pz] : SE T (tGetN T td ty tz) (pGetN pd py pz) where
  run := fun {c L H σ ρ P Q} s h k => h1.run s h fun x d H1 s1 r1 q1 => by
    obtain ⟨ks, vs, rfl, q1⟩ := q1
    obtain ⟨a, es, rfl, ⟨ep, ha⟩, he⟩ := r1.dct_inv
    refine ⟨a, es, rfl, ⟨ep, (mask_some ha).2⟩, ⟨ks, vs, he.mono (mask_le _ _)⟩, h2.run (s.step s1) q1 fun y dy H2 s2 r2 q2 => h3.run ((s.step s1).step s2) q2 fun z dz H3 s3 r3 q3 => ?_⟩
    obtain ⟨hk, hl, q⟩ := q3
    have S := ((s.step s1).step s2).step s3
    have r1' := r1.mono ((s2.trans s3).mask s.ok)
    have r2' := r2.mono (s3.mask s.ok)
    have ha' := (s2.trans s3).mask (L := L) s.ok a _ ha
    have he' := he.mono ((s2.trans s3).mask (L := L) s.ok)
    obtain ⟨ds, kk, rfl, ek, hd⟩ := key_ex hk
    obtain ⟨b, xs, rfl, _, _⟩ := r2'.tup_inv
    refine ⟨b, es, ks, vs, kk, rfl, ⟨ep, (mask_some ha').2⟩, he'.mono (mask_le _ _), by rw [← ek]; exact r2'.full, hd, ?_⟩
    obtain ⟨qa, qb⟩ := at_data (k := kk) he'.rv
    have hk2 := he'.hk
    rw [← hk2, ← ek] at qa qb
    cases hz : lkD ks vs (.tup ds) with
    | none =>
      have hn := lk_none hl hz
      rw [decide_eq_false hn] at qa
      rw [Option.isSome_eq_false_iff, Option.isNone_iff_eq_none] at qa
      rw [qa]
      rw [hz] at q
      exact k _ _ _ ((s1.trans s2).trans s3) r3 q
    | some zz =>
      obtain ⟨v, hv, rv⟩ := qb zz hz
      rw [hv]
      rw [hz] at q
      exact k _ _ _ ((s1.trans s2).trans s3) rv q
/-- return d, d of the def's own -/
def tVarD (i : Nat) : TE := tVar i
theorem pvd (i : Nat) {X : Cx} {x : Str} {pos : Pos} (h : PE X (.Name x pos) (tVar i)) : PE X (.Name x pos) (tVarD i) := h
@[reducible, simp] def qRetD (i : Nat) : PS1 := fun ρ F => ∃ ks vs, ρ[i]? = some (some (.od ks vs)) ∧ F.rt (.dct ks vs)
instance {i : Nat} : SS T (tRet (tVarD i)) (qRetD i) where
  run := fun s e f h o => by
    obtain ⟨ks, vs, hi, h⟩ := h
    obtain ⟨a, es, g1, g2, ⟨ep, g3⟩, g4⟩ := s.ownd i ks vs hi
    have g5 := g4.mono (mask_sub (M' := _) fun b hb => List.mem_append_right _ hb)
    exact ⟨.ref a, g1, o.rt _ _ _ e (.dct (by rw [mask_out (s.LM a g2)]; exact g3) g5.hk g5.dp g5.rk g5.rv) h⟩
/-- a dict of the def's own is not changed any more -/
def tFrzD (i : Nat) (ts : TS) : TS := ts
theorem ps_frzD (i : Nat) {X : Cx} {st : Stmt} {t : TS} (h : PS X st t) : PS X st (tFrzD i t) := h
@[reducible, simp] def qFrzD (i : Nat) (q : PS1) : PS1 := fun ρ F => ∃ ks vs, ρ[i]? = some (some (.od ks vs)) ∧ q (ρ.set i (some (.v (.dct ks vs)))) F
instance {i : Nat} {t : TS} {q : PS1} [h1 : SS T t q] : SS T (tFrzD i t) (qFrzD i q) where
  run := fun {c L H H0 σ ρ F D} s e f h o => by
    obtain ⟨ks, vs, hi, h⟩ := h
    obtain ⟨L', hL, sb⟩ := s.bord hi
    exact h1.run sb e (fun b hb => f b (hL b hb)) h o
end
end
end DL
/-! DE: enumerate of a list or a tuple, zip of tuples -/
namespace DL
open PySem L2 PyProof.Rows
noncomputable section
theorem enum_new1 {v : Value} {o : Obj} {H : Heap → Prop} (B : Begins v o H) :
    Meets (Builtin.«enumerate.__new__» ⟨[.type "enumerate", v], []⟩) (fun _ R s => H s.heap ∧
      R (.ok (.ret (.ref (s.heap.push o).objs.size))) { s with heap := (s.heap.push o).push { cls := .type "enumerate", data := .fields #[.none, .bool false, .ref s.heap.objs.size, rawInt 0, .none, .none] } }) :=
  .of_wp fun prog w A R s h => by
    obtain ⟨hp, g, d, tk, os⟩ := s; obtain ⟨h1, h⟩ := h
    have hsub := sub_enumerate
    have q1 : ∀ {A' : Around} {E : Value → Shared → Prop} {Q : Value → Shared → Prop}, Q (.ref hp.objs.size) ⟨hp.push o, g, d, tk, os⟩ → wpAny (model prog w) A' (pyIter v) Q E ⟨hp, g, d, tk, os⟩ :=
      fun q => B.iter prog w _ _ ⟨hp, g, d, tk, os⟩ _ h1 q
    wp_walk using q1
    refine wpAny_stack_any fun st => wpAny_pure ?_
    split
    · rename_i c _ _ _ _ _
      cases (c == Value.type "enumerate")
      · wp_walk using q1
        exact ⟨_, rfl, h⟩
      · wp_walk using q1
        exact ⟨_, rfl, h⟩
    · wp_walk using q1
      exact ⟨_, rfl, h⟩
section
variable {prog : Program} {w : World} {A : Around} {E : Value → Shared → Prop} {s : Shared}
theorem enum_tup {t : Addr} {items : Array Value} {Q : Value → Shared → Prop} (h1 : s.heap.IsTuple t items)
    (h : ∀ h', IsEnum h' (s.heap.objs.size + 1) s.heap.objs.size 0 .none → h'.IsTupleIter s.heap.objs.size t 0 → h'.objs.size = s.heap.objs.size + 2 →
      (∀ b o, s.heap.get? b = some o → h'.get? b = some o) → Q (.ref (s.heap.objs.size + 1)) { s with heap := h' }) :
    wpAny (model prog w) A (call (.type "enumerate") [.ref t]) Q E s := by
  refine callType_new F.called_enumerate (by decide) (F.typeCall_enumerate_1 _) (F.newCall_enumerate_1 _) (fun obj => F.args_object_init_2 obj _) F.entry_enumerate_new
    (enum_new1 (begins_tuple t items)) ⟨h1, ?_⟩
  have hz : (s.heap.push { cls := .type "tuple_iterator", data := .fields #[.ref t, .int 0 0] }).objs.size = s.heap.objs.size + 1 := Heap.size_push ..
  show _ ∧ _
  rw [hz]
  have he : IsEnum ((s.heap.push { cls := .type "tuple_iterator", data := .fields #[.ref t, .int 0 0] }).push
      { cls := .type "enumerate", data := .fields #[.none, .bool false, .ref s.heap.objs.size, rawInt 0, .none, .none] }) (s.heap.objs.size + 1) s.heap.objs.size 0 .none := by
    have := Heap.get?_push_size (s.heap.push { cls := .type "tuple_iterator", data := .fields #[.ref t, .int 0 0] })
      (o := { cls := .type "enumerate", data := .fields #[.none, .bool false, .ref s.heap.objs.size, rawInt 0, .none, .none] }) rfl
    rw [hz] at this; exact this
  refine ⟨⟨_, he, rfl⟩, h _ he ⟨_, Heap.get?_push_of_some _ (Heap.get?_push_size _ rfl), rfl, rfl⟩ (by rw [Heap.size_push, hz]) fun b o x => Heap.get?_push_of_some _ (Heap.get?_push_of_some _ x)⟩
end
section
variable {prog : Program} {w : World} {A : Around} {E : Value → Shared → Prop} {s : Shared}
theorem enum_end {e it t : Addr} {items : Array Value} {i : Nat} {c : Int} {old : Value} {Q : Option Value → Shared → Prop} (hh : A.handled = none) (he : IsEnum s.heap e it c old) (hit : s.heap.IsTupleIter it t i) (ht : s.heap.IsTuple t items) (hi : items[i]? = none)
    (hQ : ∀ h', Heap.ExtBut it s.heap h' → Q none { s with heap := h' }) : wpAny (model prog w) A (pyNext (.ref e)) Q E s := by
  have hT : s.TypeIs (.ref e) "enumerate" := ⟨_, he, rfl⟩
  unfold pyNext
  refine wpAny_bind (wpAny_attempt (wpAny_callSpecial?_slot (name := Str.ofString "__next__") hT F.slot_enumerate_next
    (wpAny_call_entry F.slot_enumerate_next hT F.entry_enumerate_next ?_ (F.args_enumerate_next_1 _))))
  show wpAny _ _ (field (.ref e) 2 >>= _) _ _ _
  refine wpAny_bind (wpAny_field he rfl (x := .ref it) rfl ?_)
  refine wpAny_bind (wpAny_nextOf_tuple_end (show A.in1.handled = none from hh) hit ht hi fun h' x he' hx' => ?_)
  obtain ⟨o, ho, hc⟩ := hx'
  refine wpAny_bind (wpAny_isInstance (T := "StopIteration") (b := true) ⟨o, ho, hc⟩ isSubtype_stop ?_)
  exact wpAny_pure (hQ _ he')
end
/-- the tuple at a, each item in a new pair -/
def IteT (K : PySem.W.Frag) (a : Addr) : It :=
  ⟨fun i H => ∃ (xs : List V) (x : V), SqT K H a xs ∧ xs[i]? = some x, fun i H v H' => ∃ T x, v = .ref T ∧ H T = none ∧ H' = upd H T (.tup [.int (i : Nat), x]) ∧ ∀ xs, SqT K H a xs → xs[i]? = some x, fun i H => ∃ xs : List V, SqT K H a xs ∧ xs.length ≤ i⟩
theorem turn_enumT {P : Program} {w : World} {K : PySem.W.Frag} {elts : List Expr} {kk : Nat} {tpos : Pos} (a e it : Addr) :
    Turn P w K (.Tuple elts kk tpos) (IteT K a) [e, it] e (fun i h => (∃ old, IsEnum h e it ((i : Nat) : Int) old) ∧ h.IsTupleIter it a i ∧ e ≠ it ∧ e ≠ a ∧ a ≠ it) where
  mem := by simp
  obj := fun i h st b hb => by
    obtain ⟨⟨old, he⟩, ⟨o, ho, hc, hd⟩, _⟩ := st
    have e' : b = e ∨ b = it := by simpa using hb
    rcases e' with z | z
    · rw [z]; exact ⟨_, he, fun v q => nomatch q⟩
    · rw [z]; exact ⟨o, ho, fun v q => by rw [hd] at q; cases q⟩
  keep := fun i h h' st k => let ⟨⟨old, he⟩, hi, hne⟩ := st; ⟨⟨old, k e (by simp) _ he⟩, hi.at fun o q => k it (by simp) o q, hne⟩
  item := by
    intro X hP hw hK hc i pins s σ H E I hf st hg
    subst hP hw hK
    obtain ⟨⟨old, he⟩, hit, hne, hea, hai⟩ := st
    obtain ⟨xs, x, hq, hx⟩ := hg
    obtain ⟨its, rv, p, hz⟩ := I.tuple hq
    obtain ⟨u, hu, ru⟩ := rv.get hx
    have hel : e < s.heap.objs.size := Heap.lt_size he
    have hil : it < s.heap.objs.size := by obtain ⟨_, q, _⟩ := hit; exact Heap.lt_size q
    have hi : i < its.toArray.size := by
      have := (List.getElem?_eq_some_iff.mp hu).1
      simpa using this
    refine wpAny_pyNext_enum_itemD (Draws.tuple (A := X.A.in1) (show X.A.in1.handled = none from I.ok.hd hc) it a hai its.toArray) he ⟨hit, p⟩ hi hne (fun z => (List.mem_cons.mp z).elim hne fun z => hea (List.mem_singleton.mp z)) fun y h' tk hy ho hit' hT hsz hk => ?_
    have ey : y = u := by
      have q1 : its.toArray[i]? = some u := by simpa using hu
      rw [q1] at hy
      exact (Option.some.inj hy).symm
    subst ey
    refine ⟨_, rfl, wpAny_letOwnedTupleGo_enum (s := { s with heap := h', toks := tk + 1 }) ho fun h'' he' sb => ?_⟩
    have hT2 : h''.get? s.heap.objs.size = some { cls := .type "tuple", data := .seq #[.int i tk, y] } := (sb.2 _ (Nat.ne_of_gt hel)).trans hT
    have new : ObjOk X.prog X.w (upd H s.heap.objs.size (.tup [.int (i : Nat), x])) h'' s.heap.objs.size (.tup [.int (i : Nat), x]) :=
      ⟨by show 2 ≤ sizeLine; decide, [.int i tk, y], .cons ⟨_, rfl⟩ (.cons ru .nil), ⟨_, hT2, rfl, _, rfl⟩⟩
    have I1 : Inv X pins σ (upd H s.heap.objs.size (.tup [.int (i : Nat), x])) { s with heap := h'', toks := tk + 1 } :=
      I.turnedNew (ch := [e, it]) (fun b ob hb q => (sb.2 b (fun z => hb (by simp [z]))).trans (hk b ob (fun z => hb (by simp [z])) (fun z => hb (by simp [z])) q)) hf (Nat.le_refl _) new
    refine ⟨.ref s.heap.objs.size, _, I1, rfl, ⟨_, x, rfl, I.hok.fresh (Nat.le_refl _), rfl, fun ys hy => by rw [I.tuple_inj hy hq]; exact hx⟩, ⟨⟨y, ?_⟩, hit'.1.at fun o q => (sb.2 it (Ne.symm hne)).trans q, hne, hea, hai⟩, fun b hb => ?_⟩
    · have e1 : ((i + 1 : Nat) : Int) = (i : Int) + 1 := by omega
      rw [e1]; exact he'
    · have hb' : b < s.heap.objs.size := by
        have e' : b = e ∨ b = it := by simpa using hb
        rcases e' with z | z
        · rw [z]; exact hel
        · rw [z]; exact hil
      rw [upd_ne (Nat.ne_of_lt hb')]
      exact (hf b hb).1
  done := by
    intro X hP hw hK hc i pins s σ H E I hf st hg
    subst hP hw hK
    obtain ⟨⟨old, he⟩, hit, hne, hea, hai⟩ := st
    obtain ⟨xs, hq, hx⟩ := hg
    obtain ⟨its, rv, p, hz⟩ := I.tuple hq
    obtain ⟨f0, f1, f2, f3, f4, f5⟩ := hf it (by simp)
    have hl := rv.length
    exact enum_end (I.ok.hd hc) he hit p (by simp; omega) fun h' eb => ⟨rfl, I.turned (t' := s.toks) (fun b o hb q => eb b o hb q) f0 f1 f3 f4 f5⟩
  self := fun A i s Q E st h => let ⟨⟨_, he⟩, _⟩ := st; wpAny_pyIter_enum he h
def iEnumA (K : PySem.W.Frag) (ta : TA) : TI := fun σ H R => ta σ H fun vs H1 => ∃ a xs, vs = [.ref a] ∧ ((SqL K H1 a xs ∧ R (Ite K a) H1) ∨ (SqT K H1 a xs ∧ R (IteT K a) H1))
theorem pi_enumA {X : Cx} {e : Expr} {ta : TA} {p pos tpos : Pos} {elts : List Expr} {kk : Nat} (hg : Gl X "enumerate") (hm : X.mg "enumerate" = none) (ha : PA X [e] ta) (hs : starEach [e] X.env = [(false, eval e X.env)] := by rfl) :
    PI X (.Tuple elts kk tpos) (.Call (.Name "enumerate" p) [e] [] pos) (iEnumA X.K ta) := by
  refine ⟨fun pins s σ H R I h => ?_⟩
  refine Call_ (ld_blt I hg hm PyProof.Rows.boot_enumerate (PyProof.Rows.callWith_type1 (thn (ha.run pos pins s σ H _ I h) fun us s1 ⟨vs, H1, I1, r1, q1⟩ => ?_) hs rfl))
  obtain ⟨a, xs, ex, q⟩ := q1
  subst ex
  cases r1 with
  | cons r rr =>
    cases rr
    cases r
    have fr : ∀ b, b ∈ [s1.heap.objs.size + 1, s1.heap.objs.size] → FpOk X pins H1 b := fun b hb => by
      have e' : b = s1.heap.objs.size + 1 ∨ b = s1.heap.objs.size := by simpa using hb
      have hle : s1.heap.objs.size ≤ b := by
        rcases e' with z | z
        · rw [z]; exact Nat.le_add_right _ _
        · rw [z]; exact Nat.le_refl _
      exact I1.fpOk hle (I1.hok.fresh hle)
    rcases q with ⟨hq, q⟩ | ⟨hq, q⟩
    · obtain ⟨its, rv, p', hz⟩ := I1.list hq
      refine call_enumerate_list p'.isList fun h' he hit hsz hk => wpAny_pyIter_enum he ?_
      have I2 : Inv X pins σ H1 { s1 with heap := h' } := I1.kept (t' := s1.toks) hk
      exact ⟨s1.heap.objs.size + 1, [s1.heap.objs.size + 1, s1.heap.objs.size], _, _, H1, rfl, I2, turn_enum a (s1.heap.objs.size + 1) s1.heap.objs.size, ⟨⟨.none, he⟩, hit, Nat.succ_ne_self _⟩, fr, q⟩
    · obtain ⟨its, rv, p', hz⟩ := I1.tuple hq
      have hlt : a < s1.heap.objs.size := by obtain ⟨o, ho, _⟩ := id p'; exact Heap.lt_size ho
      refine enum_tup p' fun h' he hit hsz hk => wpAny_pyIter_enum he ?_
      have I2 : Inv X pins σ H1 { s1 with heap := h' } := I1.kept (t' := s1.toks) hk
      exact ⟨s1.heap.objs.size + 1, [s1.heap.objs.size + 1, s1.heap.objs.size], _, _, H1, rfl, I2, turn_enumT a (s1.heap.objs.size + 1) s1.heap.objs.size, ⟨⟨.none, he⟩, hit, Nat.succ_ne_self _, Nat.ne_of_gt (Nat.lt_succ_of_lt hlt), Nat.ne_of_lt hlt⟩, fr, q⟩
section
variable {T : Tx} {K : PySem.W.Frag} {ta : TA} {pa : PA1}
def enumD (ds : List D) : List D := ds.mapIdx fun i d => D.tup [.int i, d]
@[simp] theorem enumD_len (ds : List D) : (enumD ds).length = ds.length := by simp [enumD]
theorem enumD_some {ds : List D} {i : Nat} {d : D} (h : (enumD ds)[i]? = some d) : ∃ x, ds[i]? = some x ∧ d = .tup [.int i, x] := by
  unfold enumD at h
  rw [List.getElem?_mapIdx] at h
  obtain ⟨x, h1, h2⟩ := Option.map_eq_some_iff.mp h
  exact ⟨x, h1, h2.symm⟩
theorem enumD_get {ds : List D} {i : Nat} {x : D} (h : ds[i]? = some x) : (enumD ds)[i]? = some (.tup [.int i, x]) := by
  unfold enumD
  rw [List.getElem?_mapIdx, h]
  rfl
theorem walk_enumT {a : Addr} {xs : List V} : Walk (IteT K a) xs.length (fun H => SqT K H a xs) (fun i H v H' => ∃ T x, v = .ref T ∧ H T = none ∧ H' = upd H T (.tup [.int (i : Nat), x]) ∧ xs[i]? = some x) :=
  ⟨fun i _ hi q => ⟨xs, xs[i], q, by simp [hi]⟩, fun _ q => ⟨xs, q, Nat.le_refl _⟩, fun _ _ _ _ _ q ⟨T, x, h1, h2, h3, h4⟩ => ⟨T, x, h1, h2, h3, h4 xs q⟩⟩
theorem walk_enumL {a : Addr} {xs : List V} : Walk (Ite K a) xs.length (fun H => SqL K H a xs) (fun i H v H' => ∃ T x, v = .ref T ∧ H T = none ∧ H' = upd H T (.tup [.int (i : Nat), x]) ∧ xs[i]? = some x) :=
  ⟨fun i _ hi q => ⟨xs, xs[i], q, by simp [hi]⟩, fun _ q => ⟨xs, q, Nat.le_refl _⟩, fun _ _ _ _ _ q ⟨T, x, h1, h2, h3, h4⟩ => ⟨T, x, h1, h2, h3, h4 xs q⟩⟩
@[reducible, simp] def iEnumD (p : PA1) : PA1 := fun ρ P => p ρ fun ds => ∃ d es, ds = [d] ∧ (d = .lst es ∨ d = .tup es) ∧ P (enumD es)
theorem Thr.fresh {c : Cfg} {L L' : List Addr} {H1 H : Hp} (t : Thr T c L H1 L' H) {p : Addr} (h : H p = none) : p ∉ L' ++ c.M := fun q => by
  obtain ⟨o, e, _⟩ := t.ok p q
  rw [h] at e
  cases e
theorem pair_new {c : Cfg} {L L' : List Addr} {H1 H : Hp} (t : Thr T c L H1 L' H) {p : Addr} (hp : H p = none) {x y : V} {d e : D} (r1 : Rp T (mask (L' ++ c.M) H) x d) (r2 : Rp T (mask (L' ++ c.M) H) y e) :
    Stp c H (upd H p (.tup [x, y])) ∧ Rp T (mask (L' ++ c.M) (upd H p (.tup [x, y]))) (.ref p) (.tup [d, e]) := by
  have st : Stp c H (upd H p (.tup [x, y])) := .same (Same.new hp)
  refine ⟨st, .tup (xs := [x, y]) (by rw [mask_out (t.fresh hp)]; exact upd_same) ?_⟩
  have sm : Same (mask (L' ++ c.M) H) (mask (L' ++ c.M) (upd H p (.tup [x, y]))) := Same.mask (Same.new hp)
  exact .cons (r1.mono sm) (.cons (r2.mono sm) .nil)
instance [ha : SA T ta pa] : SI T (iEnumA K ta) (iEnumD pa) where
  run := fun s h k => ha.run s h fun vs ds H1 st r h1 => by
    obtain ⟨d, es, rfl, hd, h1⟩ := h1
    obtain ⟨v, rfl, rv⟩ := r.one
    rcases hd with rfl | rfl
    · cases rv with
      | @lst a xs _ h2 r2 =>
        refine ⟨a, xs, rfl, .inl ⟨SqL.of (mask_some h2).2, k _ xs.length _ _ H1 _ (walk_enumL (K := K) (a := a) (xs := xs)) (by rw [enumD_len]; exact r2.length.symm) st h1 (fun L' H' t => SqL.of (t.at_ s.ok h2)) fun i x L' H' H'' hi t ⟨p, y, e1, e2, e3, e4⟩ => ?_⟩⟩
        subst e1 e3
        obtain ⟨d, q1, q2⟩ := (r2.mono (t.mono s.ok)).get e4
        obtain ⟨z1, z2⟩ := pair_new t e2 (.int (i : Int)) q2
        exact ⟨_, enumD_get q1, z1, z2⟩
    · cases rv with
      | @tup a xs _ h2 r2 =>
        refine ⟨a, xs, rfl, .inr ⟨SqT.of (mask_some h2).2, k _ xs.length _ _ H1 _ (walk_enumT (K := K) (a := a) (xs := xs)) (by rw [enumD_len]; exact r2.length.symm) st h1 (fun L' H' t => SqT.of (t.at_ s.ok h2)) fun i x L' H' H'' hi t ⟨p, y, e1, e2, e3, e4⟩ => ?_⟩⟩
        subst e1 e3
        obtain ⟨d, q1, q2⟩ := (r2.mono (t.mono s.ok)).get e4
        obtain ⟨z1, z2⟩ := pair_new t e2 (.int (i : Int)) q2
        exact ⟨_, enumD_get q1, z1, z2⟩
/-- zip of two tuples -/
def zipD (ds es : List D) : List D := (ds.zip es).map fun p => D.tup [p.1, p.2]
@[reducible, simp] def iZipD (p : PA1) : PA1 := fun ρ P => p ρ fun ds => ∃ es fs, ds = [.tup es, .tup fs] ∧ P (zipD es fs)
theorem walk_zipT {a b : Addr} {xs ys : List V} {n : Nat} (hn : n = min xs.length ys.length) : Walk (RZ.ItzT K a b) n (fun H => SqT K H a xs ∧ SqT K H b ys) (YPair (fun i => xs[i]?) (fun i => ys[i]?)) := by
  subst hn
  refine ⟨fun i H hi q => ?_, fun H q => ?_, fun i H x H' hi q y => ?_⟩
  · exact ⟨xs, ys, xs[i], ys[i], q.1, q.2, by simp, by simp⟩
  · exact ⟨xs, ys, q.1, q.2, by omega⟩
  · obtain ⟨T, x, y, h1, h2, h3, h4, h5⟩ := y
    exact ⟨T, x, y, h1, h2, h3, h4 xs q.1, h5 ys q.2⟩
instance [ha : SA T ta pa] : SI T (RZ.iZipA K ta) (iZipD pa) where
  run := fun s h k => ha.run s h fun vs ds H1 st r h1 => by
    obtain ⟨es, fs, rfl, h1⟩ := h1
    obtain ⟨v, w, rfl, rv, rw'⟩ := r.two
    cases rv with
    | @tup a xs _ h2 r2 =>
      cases rw' with
      | @tup b ys _ h3 r3 =>
        refine ⟨a, b, xs, ys, rfl, .inr ⟨SqT.of (mask_some h2).2, SqT.of (mask_some h3).2, k _ _ _ _ H1 _ (walk_zipT (K := K) (a := a) (b := b) (xs := xs) (ys := ys) rfl) ?_ st h1 (fun L' H' t => ⟨SqT.of (t.at_ s.ok h2), SqT.of (t.at_ s.ok h3)⟩) fun i x L' H' H'' hi t ⟨p, y, z, e1, e2, e3, e4, e5⟩ => ?_⟩⟩
        · unfold zipD
          rw [List.length_map, List.length_zip, r2.length, r3.length]
        · subst e1 e3
          obtain ⟨d, q1, q2⟩ := (r2.mono (t.mono s.ok)).get e4
          obtain ⟨d', q3, q4⟩ := (r3.mono (t.mono s.ok)).get e5
          obtain ⟨z1, z2⟩ := pair_new t e2 q2 q4
          refine ⟨_, ?_, z1, z2⟩
          unfold zipD
          rw [List.getElem?_map, List.getElem?_zip_eq_some (z := (d, d')).mpr ⟨q1, q3⟩]
          rfl
end
end
end DL
/-! DS: the keys of a dict walked; sorted, list of what reads as data -/
namespace DL
open PySem L2 PyProof.Rows
noncomputable section
/-- the keys of the dict at d -/
def ItN (T : Tx) (d : Addr) (es : NE) (ep : Nat) : It :=
  ⟨fun i H => H d = some (DnO T d es ep) ∧ i < es.length, fun i H v H' => H' = H ∧ ∃ e, es[i]? = some e ∧ v = .ref e.2.1, fun i H => H d = some (DnO T d es ep) ∧ es.length ≤ i⟩
theorem rn_get : ∀ {es : NE} {ys : List (NestedKey × Addr × Value)} {i : Nat} {e : NestedKey × Addr × V}, Paired RN es ys → es[i]? = some e → ∃ y, ys[i]? = some y ∧ RN e y
  | _, _, _, _, .nil, h => by simp at h
  | _, _, 0, _, .cons r _, h => by simp at h; subst h; exact ⟨_, rfl, r⟩
  | _, _, i + 1, _, .cons _ t, h => by
    obtain ⟨y, h1, h2⟩ := rn_get (i := i) t (by simpa using h)
    exact ⟨y, by simpa using h1, h2⟩
theorem turn_keysN {T : Tx} {P : Program} {w : World} {K : PySem.W.Frag} {tg : Expr} {d : Addr} {es : NE} {ep : Nat} (it : Addr) : Turn P w K tg (ItN T d es ep) [it] it (fun i h => h.IsKeyIter it d i es.length ep) where
  mem := by simp
  obj := fun i h st b hb => by
    have e : b = it := by simpa using hb
    subst e
    obtain ⟨oi, e, c, dd⟩ := st
    exact ⟨oi, e, fun v z => by rw [dd] at z; cases z⟩
  keep := fun i h h' st k => st.at fun oi e => k it (by simp) oi e
  item := by
    intro X hP hw hK hc i pins s σ H E I hf st hg
    subst hP hw hK
    obtain ⟨hd, hi⟩ := hg
    obtain ⟨f0, f1, f2, f3, f4, f5⟩ := hf it (by simp)
    obtain ⟨⟨h1, h2, ys, h3, o, es', h4, h5, h6, h7, h8⟩, _, _⟩ := I.hok d _ hd
    have hl : es.length = ys.length := Paired.length h3
    have hsz : es'.size = es.length := by rw [hl]; exact size_of_entries h7
    obtain ⟨y, hy, r1, r2, r3⟩ := rn_get h3 (List.getElem?_eq_getElem hi)
    have hen := entry_at h7 i
    rw [hy] at hen
    refine next_key_item st h4 h6 hsz hen fun h' st' sb => ?_
    have I1 : Inv X pins σ H { s with heap := h' } := I.turned (t' := s.toks) (fun b ob hb e => (sb.2 b hb).trans e) f0 f1 f3 f4 f5
    obtain ⟨oi, e, c, dd⟩ := id st'
    refine ⟨_, rfl, go_of (s := { s with heap := h' }) e c dd (by decide) ⟨.ref es[i].2.1, H, I1, ?_, ⟨rfl, _, List.getElem?_eq_getElem hi, rfl⟩, st', fun b hb => (hf b hb).1⟩⟩
    show Value.ref y.2.1 = Value.ref es[i].2.1
    rw [r2]
  done := by
    intro X hP hw hK hc i pins s σ H E I hf st hg
    subst hP hw hK
    obtain ⟨hd, hi⟩ := hg
    obtain ⟨f0, f1, f2, f3, f4, f5⟩ := hf it (by simp)
    obtain ⟨⟨h1, h2, ys, h3, o, es', h4, h5, h6, h7, h8⟩, _, _⟩ := I.hok d _ hd
    have hl : es.length = ys.length := Paired.length h3
    have hsz : es'.size = es.length := by rw [hl]; exact size_of_entries h7
    exact next_key_end (I.ok.hd hc) st h4 h6 hsz hi fun h' eb => ⟨rfl, I.turned (t' := s.toks) (fun b ob hb e => eb b ob hb e) f0 f1 f3 f4 f5⟩
  self := fun A i s Q E st h => wpAny_pyIter_keyiter st h
def iKeysN (T : Tx) (td : TE) : TI := fun σ H R => td σ H fun x H1 => ∃ d es ep, x = .ref d ∧ H1 d = some (DnO T d es ep) ∧ R (ItN T d es ep) H1
theorem pi_keysN {T : Tx} {X : Cx} {tg e : Expr} {td : TE} (he : PE X e td) : PI X tg e (iKeysN T td) := by
  refine ⟨fun pins s σ H R I h => ?_⟩
  refine thn (he.run pins s σ H _ I h) fun u s1 ⟨x, H1, I1, rx, d, es, ep, ex, hd, q⟩ => ?_
  subst ex
  obtain rfl : u = Value.ref d := rx
  obtain ⟨⟨h1, h2, ys, h3, o, es', h4, h5, h6, h7, h8⟩, _, _⟩ := I1.hok d _ hd
  have hl : es.length = ys.length := Paired.length h3
  have hsz : es'.size = es.length := by rw [hl]; exact size_of_entries h7
  refine iter_keys h2 h4 h5 h6 (pi_one (tk := s1.toks) I1 _ (turn_keysN _) ⟨_, Heap.get?_push_size _ rfl, rfl, ?_⟩ q)
  rw [hsz] <;> rfl
section
variable {T : Tx} {K : PySem.W.Frag} {td : TE} {pd : PE1}
theorem walk_keysN {d : Addr} {es : NE} {ep : Nat} : Walk (ItN T d es ep) es.length (fun H => H d = some (DnO T d es ep)) (fun i H x H' => H' = H ∧ ∃ e, es[i]? = some e ∧ x = .ref e.2.1) :=
  ⟨fun i _ hi q => ⟨q, hi⟩, fun _ q => ⟨q, Nat.le_refl _⟩, fun _ _ _ _ _ q y => y⟩
@[reducible, simp] def iDk (pe : PE1) : PA1 := fun ρ P => pe ρ fun d => ∃ ks vs, d = .dct ks vs ∧ P ks
instance [he : SE T td pd] : SI T (iKeysN T td) (iDk pd) where
  run := fun s h k => he.run s h fun v d H1 st r h1 => by
    obtain ⟨ks, vs, rfl, h1⟩ := h1
    obtain ⟨a, es, rfl, ⟨ep, ha⟩, he⟩ := r.dct_inv
    refine ⟨a, es, ep, rfl, (mask_some ha).2, k _ es.length _ _ H1 ks walk_keysN he.len.symm st h1 (fun L' H' t => t.at_ s.ok ha) fun i x L' H' H'' hi t ⟨e1, e, e2, e3⟩ => ?_⟩
    subst e1 e3
    obtain ⟨d, q1, q2⟩ := (he.rk.mono (t.mono s.ok)).get (i := i) (v := .ref e.2.1) (by rw [List.getElem?_map, e2]; rfl)
    exact ⟨d, q1, Stp.refl _ _, q2⟩
end
/-! ### sorted -/
mutual
theorem reads_im {h : Heap} : ∀ (d : D) (n : Nat) {v : Value} {as : List Addr}, d.im = true → d.fit n = true → Reads h v d.py as → as = []
  | .int i, _, _, _, _, _, r => by simp only [D.py] at r; cases r; rfl
  | .tup ds, n, _, _, h1, h2, r => by
    simp only [D.py] at r
    simp only [D.im] at h1
    simp only [D.fit, Bool.and_eq_true] at h2
    cases r with
    | tuple _ _ _ r => exact readsA_im ds (n - 1) h1 h2.2 r
  | .str x, _, _, _, _, h, _ => by simp [D.fit] at h
  | .non, _, _, _, _, h, _ => by simp [D.fit] at h
  | .bl _, _, _, _, _, h, _ => by simp [D.fit] at h
  | .lst _, _, _, _, h, _, _ => by simp [D.im] at h
  | .dct _ _, _, _, _, h, _, _ => by simp [D.im] at h
  | .web _ _, _, _, _, h, _, _ => by simp [D.im] at h
  | .game _ _, _, _, _, h, _, _ => by simp [D.im] at h
theorem readsA_im {h : Heap} : ∀ (ds : List D) (n : Nat) {vs : List Value} {as : List Addr}, D.imA ds = true → D.fitA ds n = true → ReadsAll h vs (D.pyA ds) as → as = []
  | [], _, _, _, _, _, r => by simp only [D.pyA] at r; cases r; rfl
  | d :: ds, n, _, _, h1, h2, r => by
    simp only [imA_cons, Bool.and_eq_true] at h1
    simp only [fitA_cons, Bool.and_eq_true] at h2
    simp only [D.pyA] at r
    cases r with
    | cons r1 r2 =>
      rw [reads_im d n h1.1 h2.1 r1, readsA_im ds n h1.2 h2.2 r2]
      rfl
end
/-- what may be sorted -/
structure SortOk (ds : List D) : Prop where
  al : ∀ d ∈ ds, ∀ e ∈ ds, PySem.W.alike d.py e.py = true
  im : ∀ d ∈ ds, d.im = true ∧ d.fit 40 = true
  kd : (∀ d ∈ ds, ∃ x r, d = .tup (x :: r)) ∨ (∀ d ∈ ds, ∃ i, d = .int i) ∨ ds.length ≤ 1
def leD (d e : D) : Prop := PySem.W.dataLt e.py d.py = false
abbrev PairD (out : List (V × D)) : Prop := out.Pairwise fun x y => leD x.2 y.2
section
variable {prog : Program} {w : World} {A : Around} {E : Value → Shared → Prop} {s : Shared}
theorem each_of_vals : ∀ {xs : List V} {us : List Value} {ds : List D}, Vals xs us → xs.length = ds.length → PySem.W.EachIs (fun v (b : V × D) => L2.RelV b.1 v) us (xs.zip ds)
  | _, _, [], .nil, _ => .nil
  | _, _, d :: ds, .cons r t, h => .cons r (each_of_vals t (by simpa using h))
  | _, _, [], .cons r t, h => by simp at h
  | _, _, _ :: _, .nil, h => by simp at h
theorem vals_of_each : ∀ {us : List Value} {bs : List (V × D)}, PySem.W.EachIs (fun v (b : V × D) => L2.RelV b.1 v) us bs → Vals (bs.map (·.1)) us
  | _, _, .nil => .nil
  | _, _, .cons r t => .cons r (vals_of_each t)
/-- a list is sorted in place -/
theorem sort_new {vs : List Value} {bs : List (V × D)} {a : Addr} {Q : Value → Shared → Prop} (hl : s.heap.get? a = some (seqObj "list" vs.toArray 0)) (e : PySem.W.EachIs (fun v (b : V × D) => L2.RelV b.1 v) vs bs)
    (er : PySem.W.EachIs (fun v (b : V × D) => ∃ as, Reads s.heap v b.2.py as) vs bs) (ok : SortOk (bs.map (·.2))) (hL : bs.length ≤ sizeLine) (hu : A.units + 50 < cLine)
    (h : ∀ out bs', PySem.W.EachIs (fun v (b : V × D) => L2.RelV b.1 v) out bs' → bs'.Perm bs → PairD bs' → Q .none { s with heap := sortedHeap s.heap a vs (List.toArray out) }) :
    wpAny (model prog w) A (call (.builtin "list.sort") [.ref a]) Q E s := by
  have mem2 : ∀ {b : V × D}, b ∈ bs → b.2 ∈ bs.map (·.2) := fun hb => List.mem_map.mpr ⟨_, hb, rfl⟩
  have gen : PySem.W.Sortable (bs.map fun b : V × D => b.2.py) → wpAny (model prog w) A (call (.builtin "list.sort") [.ref a]) Q E s := fun hk => by
    have er2 : PySem.W.EachIs (fun v (b : V × D) => ∃ as, Reads s.heap v b.2.py as ∧ a ∉ as) vs bs := (PySem.W.each_mem er).mono fun v b ⟨⟨as, r⟩, hb⟩ => by
      have q := ok.im _ (mem2 hb)
      have e0 := reads_im b.2 40 q.1 q.2 r
      exact ⟨as, r, by rw [e0]; exact fun z => nomatch z⟩
    refine PySem.W.list_sort_data (enc := fun b : V × D => b.2.py) hl e er2 (fun d hd d' hd' => ?_) hk hL (fun b hb => ?_) fun out ho eo => h out _ eo (List.mergeSort_perm _ _) ?_
    · obtain ⟨b, hb, rfl⟩ := List.mem_map.mp hd
      obtain ⟨b', hb', rfl⟩ := List.mem_map.mp hd'
      exact ok.al _ (mem2 hb) _ (mem2 hb')
    · have q := (fit_lay b.2 40 (ok.im _ (mem2 hb)).2).2
      show A.units + 1 + PyData.depth b.2.py < cLine
      omega
    · refine (PySem.W.sort_pairwise (PySem.W.sortLe_total _ false _) bs).imp fun {x y} h => ?_
      have h' : (!PySem.W.dataLt y.2.py x.2.py) = true := h
      simpa [leD] using h'
  rcases ok.kd with k | k | k
  · refine gen (.inl fun d hd => ?_)
    obtain ⟨b, hb, rfl⟩ := List.mem_map.mp hd
    obtain ⟨x, r, e⟩ := k _ (mem2 hb)
    exact ⟨x.py, D.pyA r, by rw [e]; simp [D.py, D.pyA]⟩
  · refine gen (.inr fun d hd => ?_)
    obtain ⟨b, hb, rfl⟩ := List.mem_map.mp hd
    obtain ⟨i, e⟩ := k _ (mem2 hb)
    exact ⟨fun z => by simp [e, D.py] at z, fun xs z => by simp [e, D.py] at z⟩
  · have hb1 : bs.length ≤ 1 := by simpa using k
    have hl1 : vs.length ≤ 1 := by rw [e.length]; exact hb1
    refine wpAny_call_entry slot_list_sort ⟨_, hl, rfl⟩ entry_list_sort (SK.plain_sort (r := fun _ => 0) hl (by omega) (fun h2 => absurd h2 (by omega)) fun ps out h1 h2 h3 => ⟨_, rfl, ?_⟩) (args_list_sort _)
    obtain ⟨pm, _⟩ := TS.out_rank (r := fun _ => 0) h1 h2 h3
    have eo : out.toList = vs := by
      cases vs with
      | nil => exact List.perm_nil.mp pm
      | cons v vs =>
        cases vs with
        | nil => exact List.perm_singleton.mp pm
        | cons u us => simp at hl1
    have q := h vs bs e (List.Perm.refl _) (by
      cases bs with
      | nil => exact .nil
      | cons b bs =>
        cases bs with
        | nil => exact List.pairwise_singleton _ _
        | cons c cs => simp at hb1)
    have e2 : List.toArray vs = out := by rw [← eo]
    rw [e2] at q
    exact q
/-- sorted(a), by what is collected -/
theorem sorted_via {C : Shared → Prop} {a : Addr} {bs : List (V × D)} {Q : Value → Shared → Prop} (ok : SortOk (bs.map (·.2))) (hL : bs.length ≤ sizeLine) (hu : A.units + 64 < cLine)
    (rd : ∀ b ∈ bs, ∀ v, L2.RelV b.1 v → ∃ as, Reads s.heap v b.2.py as)
    (coll : ∀ (Qc : List Value → Shared → Prop) (Ec : Value → Shared → Prop), (∀ s1 vs bs', C s1 → (∀ b o, s.heap.get? b = some o → s1.heap.get? b = some o) → bs'.Perm bs → PySem.W.EachIs (fun v (b : V × D) => L2.RelV b.1 v) vs bs' → Qc vs s1) →
      wpAny (model prog w) A.in1 (collect (.ref a)) Qc Ec s)
    (hQ : ∀ s1 s' p (out : List Value) (c : Nat) bs', C s1 → (∀ b o, s1.heap.get? b = some o → s'.heap.get? b = some o) → s'.gens = s1.gens → s'.os = s1.os → s1.heap.objs.size ≤ p → s'.heap.get? p = some (seqObj "list" out.toArray c) →
      PySem.W.EachIs (fun v (b : V × D) => L2.RelV b.1 v) out bs' → bs'.Perm bs → PairD bs' → Q (.ref p) s') :
    wpAny (model prog w) A (call (.builtin "sorted") [.ref a]) Q E s := by
  refine Calls.call_function_entry kind_sorted plain_sorted entry_sorted (args_sorted1 _) ?_
  unfold Builtin.«sorted»
  refine wpAny_bind (m := checkCount "sorted" 1 1 _) (wpAny_pure ?_)
  refine wpAny_bind (coll _ _ fun s1 vs bs' hC k1 pm ev => ?_)
  have hvl : vs.length ≤ sizeLine := by rw [ev.length, pm.length_eq]; exact hL
  refine wpAny_bind (wpAny_newList ?_ hvl)
  have hoL : (s1.heap.push (seqObj "list" vs.toArray 0)).get? s1.heap.objs.size = some (seqObj "list" vs.toArray 0) := Heap.get?_push_size _ rfl
  have k2 : ∀ b o, s.heap.get? b = some o → (s1.heap.push (seqObj "list" vs.toArray 0)).get? b = some o := fun b o q => Heap.get?_push_of_some _ (k1 b o q)
  have er : PySem.W.EachIs (fun v (b : V × D) => ∃ as, Reads (s1.heap.push (seqObj "list" vs.toArray 0)) v b.2.py as) vs bs' := (PySem.W.each_mem ev).mono fun v b ⟨r, hb⟩ => by
    obtain ⟨as, q⟩ := rd b (pm.mem_iff.mp hb) v r
    exact ⟨as, PyProof.Rows.Reads.keeps k2 q⟩
  have ok' : SortOk (bs'.map (·.2)) := by
    have pm2 := pm.map (·.2)
    refine ⟨fun d hd e he => ok.al d (pm2.mem_iff.mp hd) e (pm2.mem_iff.mp he), fun d hd => ok.im d (pm2.mem_iff.mp hd), ?_⟩
    rcases ok.kd with k | k | k
    · exact .inl fun d hd => k d (pm2.mem_iff.mp hd)
    · exact .inr (.inl fun d hd => k d (pm2.mem_iff.mp hd))
    · exact .inr (.inr (by rw [pm2.length_eq]; exact k))
  refine wpAny_bind (wpAny_holding (sort_new (A := A.in1) (s := { s1 with heap := s1.heap.push (seqObj "list" vs.toArray 0) }) hoL ev er ok' (by rw [pm.length_eq]; exact hL) (by show A.units + 1 + 50 < cLine; omega) fun out bs'' eo pm' pw => ?_))
  obtain ⟨c, hc⟩ := sortedHeap_at (vs := vs) (out := List.toArray out) hoL
  refine wpAny_pure ⟨_, rfl, hQ s1 _ s1.heap.objs.size out c bs'' hC (fun b u q => ?_) rfl rfl (Nat.le_refl _) hc eo (pm'.trans pm) pw⟩
  have q2 : (s1.heap.push (seqObj "list" vs.toArray 0)).get? b = some u := Heap.get?_push_of_some _ q
  exact (sortedHeap_old (Nat.ne_of_lt (Heap.lt_size q)) (Heap.lt_size q2)).trans q2
end
section
variable {X : Cx} {T : Tx}
def rSortA (T : Tx) (K : PySem.W.Frag) : List V → Hp → VK → Prop := fun vs H Q => ∃ (a : Addr) (xs : List V) (ds : List D), vs = [.ref a] ∧ (SqL K H a xs ∨ SqT K H a xs ∨ ∃ es ep, H a = some (DnO T a es ep) ∧ xs = es.map fun e => V.ref e.2.1) ∧ ∃ Hs, Same Hs H ∧ RpA T Hs xs ds ∧ SortOk ds ∧
  ∀ ys es p, H p = none → ys.length ≤ sizeLine → RpA T Hs ys es → es.Perm ds → es.Pairwise leD → Q (.ref p) (upd H p (.lst ys))
theorem rpA_zip : ∀ {H : Hp} {xs : List V} {ds : List D}, RpA T H xs ds → ∀ b ∈ xs.zip ds, Rp T H b.1 b.2
  | _, _, _, .nil, b, hb => by simp at hb
  | _, _, _, .cons r t, b, hb => by
    rw [List.zip_cons_cons] at hb
    rcases List.mem_cons.mp hb with rfl | hb
    · exact r
    · exact rpA_zip t b hb
theorem rpA_of {H : Hp} : ∀ {bs : List (V × D)}, (∀ b ∈ bs, Rp T H b.1 b.2) → RpA T H (bs.map (·.1)) (bs.map (·.2))
  | [], _ => .nil
  | b :: bs, h => .cons (h b List.mem_cons_self) (rpA_of fun c hc => h c (List.mem_cons_of_mem _ hc))
theorem zip_snd {xs : List V} {ds : List D} (h : xs.length = ds.length) : (xs.zip ds).map (·.2) = ds := List.map_snd_zip (by omega)
theorem zip_fst {xs : List V} {ds : List D} (h : xs.length = ds.length) : (xs.zip ds).map (·.1) = xs := List.map_fst_zip (by omega)
theorem rn_refs : ∀ {es : NE} {ys : List (NestedKey × Addr × Value)}, Paired RN es ys → Vals (es.map fun e => V.ref e.2.1) (ys.map fun y => Value.ref y.2.1)
  | _, _, .nil => .nil
  | _, _, .cons ⟨_, h, _⟩ t => .cons (show Value.ref _ = Value.ref _ from congrArg Value.ref h.symm) (rn_refs t)
theorem coll_dn {prog prog' : Program} {w w' : World} {A : Around} {E : Value → Shared → Prop} {s : Shared} {R : List Value → Shared → Prop} {knd : HeapKind prog' w' NestedKey} {a : Addr} {o : Obj} {es' : Array DictEntry} {ep : Nat} {ys : List (NestedKey × Addr × Value)} (hh : A.handled = none)
    (h2 : (a == sysModules) = false) (h4 : s.heap.get? a = some o) (h5 : o.ExactDict) (h6 : o.data = .dict es' ep) (h7 : es'.toList = ys.map (entryOfKey knd)) (hz : ys.length ≤ sizeLine)
    (h : ∀ h' tk, (∀ b o, s.heap.get? b = some o → h'.get? b = some o) → R (ys.map fun y => Value.ref y.2.1) { s with heap := h', toks := tk }) :
    wpAny (model prog w) A (collect (.ref a)) R E s := by
  have l1 : es'.size = ys.length := size_of_entries h7
  refine PySem.W.kdu_collect (kdl_raw h2 h5 h6) hh h4 (by omega) fun h' tk acc kp it => ?_
  have ea : acc.toList = ys.map fun y => Value.ref y.2.1 := by
    have hl : acc.toList.length = ys.length := by rw [Array.length_toList, it.1]; exact l1
    apply List.ext_getElem?
    intro j
    rw [List.getElem?_map]
    cases hj : acc.toList[j]? with
    | none =>
      have h1 := List.getElem?_eq_none_iff.mp hj
      rw [List.getElem?_eq_none (by omega)]
      rfl
    | some v =>
      obtain ⟨en, hen, hv⟩ := it.2 j v (by rw [← Array.getElem?_toList]; exact hj)
      have qe := entry_at h7 j
      rw [hen] at qe
      cases hb : ys[j]? with
      | none => rw [hb] at qe; cases qe
      | some b =>
        rw [hb] at qe
        have e2 : en = entryOfKey knd b := Option.some.inj qe
        rw [hv, e2]
        rfl
  rw [ea]
  exact h h' tk kp
theorem c_sortA (hT : X.prog = T.prog ∧ X.w = T.w) (hc : X.calm = true) (hu : X.A.units + 65 < cLine) : CallR X (.builtin "sorted") (rSortA T X.K) := by
  intro pins s σ H vs us Q I r h
  obtain ⟨a, xs, ds, rfl, hs, Hs, sm, rx, ok, q⟩ := h
  rw [Vals.ref1 r]
  have hl := rx.length
  have rd : ∀ b ∈ xs.zip ds, ∀ v, L2.RelV b.1 v → ∃ as, Reads s.heap v b.2.py as := fun b hb v rv => by
    have hb2 : b.2 ∈ ds := by
      have : b.2 ∈ (xs.zip ds).map (·.2) := List.mem_map.mpr ⟨b, hb, rfl⟩
      rwa [zip_snd hl] at this
    exact Dp.reads I _ _ _ (((rpA_zip rx b hb).mono sm).dp (ok.im _ hb2).2) rv
  have zlen : (xs.zip ds).length = xs.length := by rw [List.length_zip]; omega
  have fin : ∀ s1 s' p (out : List Value) (c : Nat) bs', Inv X pins σ H s1 → (∀ b o, s1.heap.get? b = some o → s'.heap.get? b = some o) → s'.gens = s1.gens → s'.os = s1.os → s1.heap.objs.size ≤ p → s'.heap.get? p = some (seqObj "list" out.toArray c) →
      PySem.W.EachIs (fun v (b : V × D) => L2.RelV b.1 v) out bs' → bs'.Perm (xs.zip ds) → PairD bs' → xs.length ≤ sizeLine → EP X pins σ Q (.ref p) s' := fun s1 s' p out c bs' I k g o hp hg ev pm pw hz => by
    have hn : H p = none := I.hok.fresh hp
    have hv : Vals (bs'.map (·.1)) out := vals_of_each ev
    have hlen : (bs'.map (·.1)).length ≤ sizeLine := by rw [List.length_map, pm.length_eq, zlen]; exact hz
    have J : Inv X pins σ (upd H p (.lst (bs'.map (·.1)))) { s1 with heap := s'.heap, gens := s'.gens, drawn := s'.drawn, toks := s'.toks } :=
      I.call (ch := []) (Un.laid k hp hn) (I.hok.laid k hp ⟨hlen, out, c, hv, hg⟩) (by rw [g]; exact I.bare) (fun _ z => nomatch z)
    have e : s' = { s1 with heap := s'.heap, gens := s'.gens, drawn := s'.drawn, toks := s'.toks } := by
      cases s'
      cases s1
      cases o
      rfl
    rw [e]
    refine ⟨.ref p, _, J, rfl, q (bs'.map (·.1)) (bs'.map (·.2)) p hn hlen (rpA_of fun b hb => rpA_zip rx b (pm.mem_iff.mp hb)) ?_ (List.pairwise_map.mpr pw)⟩
    have := pm.map (·.2)
    rwa [zip_snd hl] at this
  rcases hs with hs | hs | ⟨es, ep, hs, rfl⟩
  · obtain ⟨its, rv, ⟨o, n, ho, hc', hd', hd⟩, hz⟩ := I.list hs
    refine sorted_via (C := Inv X pins σ H) (bs := xs.zip ds) (by rw [zip_snd hl]; exact ok) (by rw [zlen]; exact hz) (by omega) rd (fun Qc Ec k => ?_) fun s1 s' p out c bs' h0 h1 h2 h3 h4 h5 h6 h7 h8 => fin s1 s' p out c bs' h0 h1 h2 h3 h4 h5 h6 h7 h8 hz
    refine wpAny_collect_seq a (T := "list") (.inl rfl) ho hc' hd (fun h' kp => ?_) (by rw [List.size_toArray, ← rv.length]; exact hz)
    exact k _ _ _ (I.kept kp) kp (List.Perm.refl _) (by simpa using each_of_vals rv hl)
  · obtain ⟨its, rv, ⟨o, ho, hc', n, hd⟩, hz⟩ := I.tuple hs
    refine sorted_via (C := Inv X pins σ H) (bs := xs.zip ds) (by rw [zip_snd hl]; exact ok) (by rw [zlen]; exact hz) (by omega) rd (fun Qc Ec k => ?_) fun s1 s' p out c bs' h0 h1 h2 h3 h4 h5 h6 h7 h8 => fin s1 s' p out c bs' h0 h1 h2 h3 h4 h5 h6 h7 h8 hz
    refine wpAny_collect_seq a (T := "tuple") (.inr rfl) ho hc' hd (fun h' kp => ?_) (by rw [List.size_toArray, ← rv.length]; exact hz)
    exact k _ _ _ (I.kept kp) kp (List.Perm.refl _) (by simpa using each_of_vals rv hl)
  · obtain ⟨⟨h1, h2, ys, h3, o, es', h4, h5, h6, h7, h8⟩, _, _⟩ := I.hok a _ hs
    have hz : (es.map fun e => V.ref e.2.1).length ≤ sizeLine := by rw [List.length_map]; exact h1
    have hy : ys.length ≤ sizeLine := by rw [← Paired.length h3]; exact h1
    refine sorted_via (C := Inv X pins σ H) (bs := (es.map fun e => V.ref e.2.1).zip ds) (by rw [zip_snd hl]; exact ok) (by rw [zlen]; exact hz) (by omega) rd (fun Qc Ec k => ?_) fun s1 s' p out c bs' h0 h1 h2 h3 h4 h5 h6 h7 h8 => fin s1 s' p out c bs' h0 h1 h2 h3 h4 h5 h6 h7 h8 hz
    refine coll_dn (A := X.A.in1) (show X.A.in1.handled = none from I.ok.hd hc) h2 h4 h5 h6 h7 hy fun h' tk kp => ?_
    exact k _ _ _ (I.kept kp) kp (List.Perm.refl _) (each_of_vals (rn_refs h3) hl)
end
/-! by data -/
section
variable {T : Tx} {K : PySem.W.Frag} {te : TE} {pe : PE1}
@[reducible, simp] def qSortA : List D → (List D → Prop) → Prop := fun ds P => ∃ d es, ds = [d] ∧ (d = .lst es ∨ d = .tup es ∨ ∃ vs, d = .dct es vs) ∧ SortOk es ∧ ∀ fs, fs.Perm es → fs.Pairwise leD → P fs
instance : SCF T (rSortA T K) qSortA where
  run := fun {c L H σ ρ xs ds P Q} s r h k => by
    obtain ⟨d, es, rfl, hd, ok, h⟩ := h
    obtain ⟨v, rfl, rv⟩ := r.one
    have fin : ∀ ys fs p, H p = none → ys.length ≤ sizeLine → RpA T (mask (L ++ c.M) H) ys fs → fs.Perm es → fs.Pairwise leD → Q (.ref p) (upd H p (.lst ys)) := fun ys fs p hp _ ry pm pw => by
      obtain ⟨q1, q2, q3⟩ := new_lst s hp ry
      exact k p ys fs _ q1 hp q2 q3 (h fs pm pw)
    rcases hd with rfl | rfl | ⟨vs, rfl⟩
    · cases rv with
      | @lst a xs _ e1 e2 => exact ⟨a, xs, es, rfl, .inl (SqL.of (mask_some e1).2), _, mask_le _ _, e2, ok, fin⟩
    · cases rv with
      | @tup a xs _ e1 e2 => exact ⟨a, xs, es, rfl, .inr (.inl (SqT.of (mask_some e1).2)), _, mask_le _ _, e2, ok, fin⟩
    · obtain ⟨a, es', rfl, ⟨ep, ha⟩, he⟩ := rv.dct_inv
      exact ⟨a, _, es, rfl, .inr (.inr ⟨es', ep, (mask_some ha).2, rfl⟩), _, mask_le _ _, he.rk, ok, fin⟩
/-- list(d) -/
def rListN (T : Tx) : List V → Hp → VK → Prop := fun vs H Q => ∃ (a : Addr) (es : NE) (ep : Nat), vs = [.ref a] ∧ H a = some (DnO T a es ep) ∧ ∀ p, H p = none → Q (.ref p) (upd H p (.lst (es.map fun e => V.ref e.2.1)))
theorem c_listN {X : Cx} (hc : X.calm = true) : CallR X (.type "list") (rListN T) := by
  intro pins s σ H vs us Q I r h
  obtain ⟨a, es, ep, rfl, hs, q⟩ := h
  rw [Vals.ref1 r]
  obtain ⟨⟨h1, h2, ys, h3, o, es', h4, h5, h6, h7, h8⟩, _, _⟩ := I.hok a _ hs
  have hl : es.length = ys.length := Paired.length h3
  have l1 : es'.size = ys.length := size_of_entries h7
  refine PySem.W.kdl_call (kdl_raw h2 h5 h6) (I.ok.hd hc) h4 (by omega) fun h' tk acc' c' kp e it => ?_
  have ea : acc'.toList = ys.map fun y => Value.ref y.2.1 := by
    have hl : acc'.toList.length = ys.length := by rw [Array.length_toList, it.1]; exact l1
    apply List.ext_getElem?
    intro j
    rw [List.getElem?_map]
    cases hj : acc'.toList[j]? with
    | none =>
      have h1 := List.getElem?_eq_none_iff.mp hj
      rw [List.getElem?_eq_none (by omega)]
      rfl
    | some v =>
      obtain ⟨en, hen, hv⟩ := it.2 j v (by rw [← Array.getElem?_toList]; exact hj)
      have qe := entry_at h7 j
      rw [hen] at qe
      cases hb : ys[j]? with
      | none => rw [hb] at qe; cases qe
      | some b =>
        rw [hb] at qe
        have e2 : en = entryOfKey _ b := Option.some.inj qe
        rw [hv, e2]
        rfl
  refine ⟨.ref s.heap.objs.size, upd H s.heap.objs.size (.lst (es.map fun e => V.ref e.2.1)), I.laid kp (Nat.le_refl _) (show ObjOk X.prog X.w _ _ _ (.lst (es.map fun e => V.ref e.2.1)) from ⟨by rw [List.length_map]; exact h1, acc'.toList, c', ?_, ?_⟩), rfl, q _ (I.hok.fresh (Nat.le_refl _))⟩
  · rw [ea]; exact rn_refs h3
  · rw [Array.toArray_toList]; exact e
@[reducible, simp] def qListN : List D → (List D → Prop) → Prop := fun ds P => ∃ ks vs, ds = [.dct ks vs] ∧ P ks
instance : SCF T (rListN T) qListN where
  run := fun {c L H σ ρ xs ds P Q} s r h k => by
    obtain ⟨ks, vs, rfl, h⟩ := h
    obtain ⟨v, rfl, rv⟩ := r.one
    obtain ⟨a, es, rfl, ⟨ep, ha⟩, he⟩ := rv.dct_inv
    refine ⟨a, es, ep, rfl, (mask_some ha).2, fun p hp => ?_⟩
    obtain ⟨q1, q2, q3⟩ := new_lst s hp he.rk
    exact k _ _ _ _ q1 hp q2 q3 h
/-- list(range(n)) -/
@[reducible, simp] def pLstRg (pe : PE1) : PA1 := fun ρ P => pe ρ fun d => ∃ n : Nat, d = .int n ∧ n ≤ 10000 ∧ P (rangeD n)
theorem rgV_eq (n : Nat) : rgV 0 (n : Int) = ((List.range n).map fun k : Nat => ((k : Nat) : Int)).map V.int := by
  unfold rgV
  rw [List.map_map]
  have e : ((n : Int) - 0).toNat = n := by omega
  rw [e]
  refine List.map_congr_left fun k _ => ?_
  simp
instance [he : SE T te pe] : SF T (tLstRg (tRg1 te)) (pLstRg pe) where
  run := fun {c L H σ ρ P Q} s h k => he.run s h fun v d H1 st r h1 => by
    obtain ⟨n, rfl, hn, h1⟩ := h1
    cases r
    refine ⟨n, rfl, RgOk.of_le (by omega) (by omega) (by omega) (by omega), fun p hp => ?_⟩
    have S := s.step st
    have rr : RpA T (mask (L ++ c.M) H1) (rgV 0 (n : Int)) (rangeD n) := by
      rw [rgV_eq]
      have e : rangeD n = ((List.range n).map fun k : Nat => ((k : Nat) : Int)).map D.int := by unfold rangeD; rw [List.map_map]; rfl
      rw [e]
      exact RpA.ints _
    obtain ⟨q1, q2, q3⟩ := new_lst S hp rr
    exact k _ _ _ _ (st.trans q1) (fresh_back S st hp) q2 q3 h1
/-- len(set(xs)), xs a list or a tuple of ints, each once -/
def tLenSetA (K : PySem.W.Frag) (ta : TE) : TE := fun σ H Q => ta σ H fun x H1 => ∃ (l : Addr) (ns : List Int), x = V.ref l ∧ (SqL K H1 l (ns.map V.int) ∨ SqT K H1 l (ns.map V.int)) ∧ ns.length < 64 ∧ ns.Nodup ∧ Q (.int ns.length) H1
theorem nodup_len {l1 l2 : List Int} (h1 : l1.Nodup) (h2 : ∀ x ∈ l1, x ∈ l2) : l1.length ≤ l2.length := by
  induction l1 generalizing l2 with
  | nil => exact Nat.zero_le _
  | cons x l ih =>
    obtain ⟨q1, q2⟩ := List.nodup_cons.mp h1
    have hx := h2 x List.mem_cons_self
    have := ih (l2 := l2.erase x) q2 fun y hy => (List.mem_erase_of_ne (show y ≠ x from fun e => q1 (by rw [← e]; exact hy))).2 (h2 y (List.mem_cons_of_mem _ hy))
    have e := List.length_erase_of_mem hx
    have hp : 0 < l2.length := List.length_pos_of_mem hx
    rw [List.length_cons]
    omega
theorem pe_lenSetA {X : Cx} {a : Expr} {ta : TE} {p p2 q pos : Pos} (hc : X.calm = true) (hg : Gl X "len") (hm : X.mg "len" = none) (hg2 : Gl X "set") (hm2 : X.mg "set" = none) (ha : PE X a ta)
    (na : starEach [a] X.env = (false, eval a X.env) :: starEach [] X.env := by rfl) : PE X (.Call (.Name "len" p) [.Call (.Name "set" p2) [a] [] q] [] pos) (tLenSetA X.K ta) := by
  refine ⟨fun pins s σ H Q I h => ?_⟩
  refine Call_ (ld_blt I hg hm PySem.boot_len ?_)
  refine PyProof.Rows.callWith_builtin1 (PyProof.Rows.args_cons ?_ rfl) rfl rfl
  refine Call_ (ld_blt I hg2 hm2 PyProof.Rows.boot_set ?_)
  refine PyProof.Rows.callWith_type1 (PyProof.Rows.args_cons (thn (ha.run pins s σ H _ I h) fun v s1 ⟨x, H1, I1, r1, q1⟩ => PyProof.Rows.args_nil ?_) na) na rfl
  obtain ⟨l, ns, rfl, hq, h1, hnd, q1⟩ := q1
  cases r1
  rcases hq with hq | hq
  · obtain ⟨its, r, pl, hz⟩ := I1.list hq
    have hl : its.toArray.size = ns.length := by rw [List.size_toArray, ← r.length, List.length_map]
    refine call_set_list (I1.ok.hd hc) pl.isList (ns := ns) (by simpa using r.ints) (by unfold scanBound; omega) fun h' tk hS hk => ?_
    rw [hl, firstMet_nodup ns hnd ns.length (Nat.le_refl _), List.take_length] at hS
    refine PyProof.Rows.args_nil ?_
    obtain ⟨o, es, ep, t, ho, hex, hd, _, _, _, hf, hn⟩ := hS
    have I2 : Inv X pins σ H1 { s1 with heap := h', toks := tk } := I1.kept fun b o e => hk b o (Heap.lt_size e) e
    refine call_len_set ho hex hd hf (by rw [hn] <;> omega) ⟨.int ns.length, H1, I2.tok _, ⟨_, by rw [hn]⟩, q1⟩
  · obtain ⟨its, r, pl, hz⟩ := I1.tuple hq
    refine call_set_tupI ns (I1.ok.hd hc) pl (by simpa using r.ints) (by unfold scanBound; omega) fun h' tk c hS hc2 hk => ?_
    refine PyProof.Rows.args_nil ?_
    obtain ⟨o, es, ep, t, ho, hex, hd, _, hnd2, hmem, hsb, hf, hn, _⟩ := hS
    have I2 : Inv X pins σ H1 { s1 with heap := h', toks := tk } := I1.kept hk
    have e1 : ns.length ≤ c := by
      have := nodup_len hnd fun x hx => (hmem x).mp (decide_eq_true hx)
      rw [List.length_map] at this
      have e3 : es.toList.length = c := by rw [Array.length_toList]; exact hn
      exact Nat.le_trans this (Nat.le_of_eq e3)
    have e2 : c = ns.length := Nat.le_antisymm hc2 e1
    subst e2
    refine call_len_set ho hex hd hf (by rw [hn] <;> omega) ⟨.int ns.length, H1, I2.tok _, ⟨_, by rw [hn]⟩, q1⟩
@[reducible, simp] def pLenSetA (pe : PE1) : PE1 := fun ρ P => pe ρ fun d => ∃ ns : List Int, (d = .lst (ns.map .int) ∨ d = .tup (ns.map .int)) ∧ ns.length < 64 ∧ ns.Nodup ∧ P (.int (ns.length : Int))
instance [he : SE T te pe] : SE T (tLenSetA K te) (pLenSetA pe) where
  run := fun {c L H σ ρ P Q} s h k => he.run s h fun v d H1 st r h1 => by
    obtain ⟨ns, hd, hn, hnd, h1⟩ := h1
    rcases hd with rfl | rfl
    · cases r with
      | @lst a xs _ e1 e2 =>
        have := e2.ints_inv
        subst this
        exact ⟨a, ns, rfl, .inl (SqL.of (mask_some e1).2), hn, hnd, k _ _ _ st (.int _) h1⟩
    · cases r with
      | @tup a xs _ e1 e2 =>
        have := e2.ints_inv
        subst this
        exact ⟨a, ns, rfl, .inr (SqT.of (mask_some e1).2), hn, hnd, k _ _ _ st (.int _) h1⟩
end
end
end DL
/-! DC: {elt for tg in iter for tg1 in iter1}, elt a tuple of ints; sorted of such a set -/
namespace DL
open PySem L2 PyProof.Rows
noncomputable section
abbrev sc2 (elt t0 i0 t1 i1 : Expr) (scope : Scope) (pos : Pos) : Expr := .SetComp elt [⟨t0, i0, [], 0⟩, ⟨t1, i1, [], 0⟩] scope pos
theorem turnO (elt t0 i0 t1 i1 : Expr) (scope : Scope) (pos : Pos) (it acc : Value) (env : Env) :
    compTurn (sc2 elt t0 i0 t1 i1 scope pos) 0 it acc env = (do
      standAt i0.pos
      match ← pyNext it with
      | none => pure (.done .next)
      | some v =>
        letOwnedTupleGo t0 it v
        assign t0 env v
        let mut go := true
        for d in ([] : List Expr) do
          if go then go ← isTrue d env (eval d env)
        if go then
          let x ← eval i1 env
          standAt i1.pos
          let x ← foldedSetIterable i1 env x
          let _ ← runOwn (.compStart (sc2 elt t0 i0 t1 i1 scope pos) 1 (← holding [x] (pyIter x)) acc env) env
        again (.compLoop (sc2 elt t0 i0 t1 i1 scope pos) 0 it acc env)) := by rfl
theorem turnI (elt t0 i0 t1 i1 : Expr) (scope : Scope) (pos : Pos) (it acc : Value) (env : Env) :
    compTurn (sc2 elt t0 i0 t1 i1 scope pos) 1 it acc env = (do
      standAt i1.pos
      match ← pyNext it with
      | none => pure (.done .next)
      | some v =>
        letOwnedTupleGo t1 it v
        assign t1 env v
        let mut go := true
        for d in ([] : List Expr) do
          if go then go ← isTrue d env (eval d env)
        if go then
          (do let u ← eval elt env; standAt elt.pos; let _ ← call (.builtin "set.add") [acc, u])
        again (.compLoop (sc2 elt t0 i0 t1 i1 scope pos) 1 it acc env)) := by rfl
section
variable {prog : Program} {w : World} {A : Around} {R : Result → Shared → Prop} {s : Shared} {elt t0 i0 t1 i1 : Expr} {scope : Scope} {pos : Pos} {it acc : Value} {env : Env}
theorem loopO (hs : ∀ x, foldedSetIterable i1 env x = pure x) (P : Nat → Shared → Prop)
    (turn : ∀ n z, P n z → wpAny (model prog w) A (pyNext it) (fun r z1 => match r with
      | none => R (.ok .next) z1
      | some v => wpAny (model prog w) A (letOwnedTupleGo t0 it v) (fun _ z2 => wpAny (model prog w) A (assign t0 env v) (fun _ z3 =>
          wpAny (model prog w) A (eval i1 env) (fun x z4 => wpAny (model prog w) A (pyIter x) (fun jt z5 => codeAny (model prog w) A (.compStart (sc2 elt t0 i0 t1 i1 scope pos) 1 jt acc env) (fun r z' => match r with
                | .ok _ => ∃ m, m < n ∧ P m z'
                | .error _ => False) z5) (fun _ _ => False) z4) (fun _ _ => False) z3) (fun _ _ => False) z2) (fun _ _ => False) z1) (fun _ _ => False) z)
    (n : Nat) (h : P n s) : codeAny (model prog w) A (.compLoop (sc2 elt t0 i0 t1 i1 scope pos) 0 it acc env) R s := by
  refine codeAny_loop rfl P (fun n z hP => ?_) n h
  show wpAny _ A ((compTurn (sc2 elt t0 i0 t1 i1 scope pos) 0 it acc env).onRaise (fun x => do noteFrame x env; theTreesLotGoes x)) _ _ z
  refine wpAny_noted ?_
  rw [turnO]
  refine wpAny_bind (wpAny_standAt (wpAny_bind (thnF (turn n z hP) fun r z1 h1 => ?_)))
  cases r with
  | none => exact wpAny_pure h1
  | some v =>
    refine wpAny_bind (thnF h1 fun _ z2 h2 => wpAny_bind (thnF h2 fun _ z3 h3 => wpAny_bind (wpAny_tests_nil ?_)))
    refine wpAny_bind (thnF h3 fun x z4 h4 => wpAny_bind (wpAny_standAt (wpAny_bind (wpAny_of_eq (hs x) (wpAny_bind (wpAny_holding (thnF h4 fun jt z5 h5 => ?_)))))))
    refine wpAny_bind (wpAny_runOwn ?_)
    rw [Around.mark_none]
    refine codeAny_mono h5 fun r z' hr => ?_
    cases r with
    | ok f => first | exact wpAny_pure ⟨rfl, hr⟩ | exact wpAny_bind (wpAny_pure (wpAny_pure ⟨rfl, hr⟩))
    | error e => exact hr.elim
theorem loopI (P : Nat → Shared → Prop)
    (turn : ∀ n z, P n z → wpAny (model prog w) A (pyNext it) (fun r z1 => match r with
      | none => R (.ok .next) z1
      | some v => wpAny (model prog w) A (letOwnedTupleGo t1 it v) (fun _ z2 => wpAny (model prog w) A (assign t1 env v) (fun _ z3 =>
          wpAny (model prog w) A (eval elt env) (fun x z4 => wpAny (model prog w) A (call (.builtin "set.add") [acc, x]) (fun _ z5 => ∃ m, m < n ∧ P m z5) (fun _ _ => False) z4) (fun _ _ => False) z3) (fun _ _ => False) z2) (fun _ _ => False) z1) (fun _ _ => False) z)
    (n : Nat) (h : P n s) : codeAny (model prog w) A (.compLoop (sc2 elt t0 i0 t1 i1 scope pos) 1 it acc env) R s := by
  refine codeAny_loop rfl P (fun n z hP => ?_) n h
  show wpAny _ A ((compTurn (sc2 elt t0 i0 t1 i1 scope pos) 1 it acc env).onRaise (fun x => do noteFrame x env; theTreesLotGoes x)) _ _ z
  refine wpAny_noted ?_
  rw [turnI]
  refine wpAny_bind (wpAny_standAt (wpAny_bind (thnF (turn n z hP) fun r z1 h1 => ?_)))
  cases r with
  | none => exact wpAny_pure h1
  | some v =>
    refine wpAny_bind (thnF h1 fun _ z2 h2 => wpAny_bind (thnF h2 fun _ z3 h3 => wpAny_bind (wpAny_tests_nil ?_)))
    exact wpAny_bind (wpAny_bind (thnF h3 fun x z4 h4 => wpAny_bind (wpAny_standAt (wpAny_bind (thnF h4 fun _ z5 h5 => wpAny_pure (wpAny_pure ⟨rfl, h5⟩))))))
theorem startI (h0 : codeAny (model prog w) A (.compLoop (sc2 elt t0 i0 t1 i1 scope pos) 1 it acc env) R s)
    (h : wpAny (model prog w) A (pyIter it) (fun jt z => codeAny (model prog w) A (.compLoop (sc2 elt t0 i0 t1 i1 scope pos) 1 jt acc env) R z) (notedBy (model prog w) A env fun x z => R (.error x) z) s) :
    codeAny (model prog w) A (.compStart (sc2 elt t0 i0 t1 i1 scope pos) 1 it acc env) R s := by
  refine codeAny_of_tree ?_
  show wpAny _ _ ((compStart (sc2 elt t0 i0 t1 i1 scope pos) 1 it acc env).onRaise (fun x => do noteFrame x env; standAt theWindowsPlace)) _ _ s
  refine wpAny_notedAt ?_
  unfold compStart
  show wpAny _ _ (ask >>= _) _ _ s
  refine wpAny_bind (wpAny_askSetting (wpAny_ite ?_))
  split
  · first | exact wpAny_bind (wpAny_pure (wpAny_pure (And.intro rfl h0))) | exact wpAny_pure (And.intro rfl h0)
  · first
      | exact wpAny_bind (wpAny_rule (wpAny_bind (wpAny_standAt (wpAny_bind (wpAny_mono h (fun jt z h' => wpAny_pure (And.intro rfl h')) fun _ _ x => x)))))
      | (refine wpAny_bind (wpAny_rule ?_); show wpAny _ _ (standAt i1.pos >>= _) _ _ s; exact wpAny_bind (wpAny_standAt (wpAny_bind (wpAny_mono h (fun jt z h' => wpAny_pure (And.intro rfl h')) fun _ _ x => x))))
end
abbrev Mem := List (Addr × List Int)
section
variable {X : Cx}
/-- set.add of a tuple of ints -/
theorem addT_ok {pins : List (Addr × Obj)} {σ : L2.St} {H : Hp} {s : Shared} {E : Value → Shared → Prop} {D x : Addr} {L : Mem} {k : List Int} {Q : Value → Shared → Prop} (I : Inv X pins σ H s) (hu : X.A.units + 64 < cLine) (hD : H D = some (SetTO X.prog X.w D L)) (ht : ∀ p ∈ L, SqT X.K H p.1 (p.2.map V.int)) (hx : SqT X.K H x (k.map V.int)) (few : L.length + 1 < 64)
    (h : ∀ L' s', (k ∈ L.map (·.2) → L' = L) → (k ∉ L.map (·.2) → L'.Perm ((x, k) :: L)) → Inv X pins σ (upd H D (SetTO X.prog X.w D L')) s' → Q .none s') : wpAny (model X.prog X.w) X.A (call (.builtin "set.add") [.ref D, .ref x]) Q E s := by
  have R0 : SetT0 X.prog X.w s.heap D L := (I.hok D _ hD).1
  obtain ⟨es, ep, t, R⟩ := R0.full fun p hp => I.isT (ht p hp)
  have hx' := I.isT hx
  obtain ⟨o, ho, hex, hd⟩ := R.ob
  have hT : s.TypeIs (.ref D) "set" := ⟨o, ho, hex.1⟩
  refine wpAny_call_entry F.slot_set_add hT F.entry_set_add ?_ (F.args_set_add_2 _ _)
  unfold Builtin.«set.add» Builtin.Frozenset.oneOther
  simp only [List.isEmpty_nil, bind_assoc]
  unfold Builtin.Frozenset.addrOf setAdd
  refine wpAny_bind (wpAny_pure ?_)
  try dsimp only
  refine wpAny_bind (wpAny_pure ?_)
  try dsimp only
  refine wpAny_bind (wpAny_holding (wpAny_bind (wpAny_pyHash_tuple (show X.A.in1.units < cLine from by show X.A.units + 1 < cLine; omega) hx' ?_)))
  refine add_at (s := { s with toks := s.toks + (k.length + 1) }) R hx' (show X.A.in1.units < cLine from by show X.A.units + 1 < cLine; omega) few fun b h' L' es' ep' t' hsb hS2 c1 c2 => ?_
  show wpAny _ _ (ret Value.none) _ _ _
  have he : ∃ u, h'.get? D = some u := let ⟨o, ho, _⟩ := hS2.ob; ⟨o, ho⟩
  exact wpAny_pure ⟨_, rfl, h L' _ c1 c2 (I.write (e := D) (t' := s.toks + (k.length + 1)) (by rw [hD]; trivial) (.inl rfl) (fun b u hb hu => (hsb.2 b hb).trans hu) he (setTO_new hS2.t0))⟩
/-- the set comprehension: D the new set -/
def tSc2 (K : PySem.W.Frag) (P : Program) (w : World) (wi : TI) (g : TG) (wi1 : TI) (g1 : TG) (te : TE) (vs vs1 : List Nat) : TE := fun σ H Q => wi σ H fun J H1 => ∀ D, H1 D = none → ∃ W : Nat → Nat → Hp → Prop, (∃ m, W 0 m (upd H1 D (SetTO P w D []))) ∧ ∀ i m H, W i m H →
  (J.stop i H ∧ Q (.ref D) H) ∨ (J.go i H ∧ ∃ Nx : Hp → Prop, (∀ H', Nx H' → ∃ m', m' < m ∧ W (i + 1) m' H') ∧ ∀ x H', J.yld i H x H' → g x (wipe σ vs) H' fun σ2 H2 => wipe σ2 vs = wipe σ vs ∧
    wi1 σ2 H2 fun J1 H4 => ∃ W1 : Nat → Nat → Hp → Prop, (∃ m, W1 0 m H4) ∧ ∀ j k H, W1 j k H →
      (J1.stop j H ∧ Nx H) ∨ (J1.go j H ∧ ∃ Nx1 : Hp → Prop, (∀ H', Nx1 H' → ∃ k', k' < k ∧ W1 (j + 1) k' H') ∧ ∀ x H', J1.yld j H x H' → g1 x (wipe σ2 vs1) H' fun σ3 H5 => wipe σ3 vs1 = wipe σ2 vs1 ∧
        te σ3 H5 fun y H7 => ∃ (b : Addr) (ns : List Int) (L : Mem), y = .ref b ∧ SqT K H7 b (ns.map V.int) ∧ H7 D = some (SetTO P w D L) ∧ (∀ p ∈ L, SqT K H7 p.1 (p.2.map V.int)) ∧ L.length + 1 < 64 ∧
          ∀ L', (ns ∈ L.map (·.2) → L' = L) → (ns ∉ L.map (·.2) → L'.Perm ((b, ns) :: L)) → Nx1 (upd H7 D (SetTO P w D L'))))
theorem pe_sc2 {elt tg iter tg1 iter1 : Expr} {scope : Scope} {own : List (Str × Nat)} {vs1 : List Nat} {pos : Pos} {wi wi1 : TI} {g g1 : TG} {te : TE} (hc : X.calm = true) (hu : X.A.units + 64 < cLine) (hN : X.N.Nodup) (hi : PI X tg iter wi) (ok : BlkOk X.N X.env.scope scope own) (hv : ∀ i ∈ vs1, i ∈ own.map (·.2))
    (hg : ∀ (s : Shared) (H : Hp) (C : Addr) (cl : List (Str × Addr)) (fp : List Addr), PG (X.blk s H scope (compEnvC scope cl C X.env) fp) tg g)
    (hi1 : ∀ (s : Shared) (H : Hp) (C : Addr) (cl : List (Str × Addr)) (fp : List Addr), PI (X.blk s H scope (compEnvC scope cl C X.env) fp) tg1 iter1 wi1)
    (hg1 : ∀ (s : Shared) (H : Hp) (C : Addr) (cl : List (Str × Addr)) (fp : List Addr), PG (X.blk s H scope (compEnvC scope cl C X.env) fp) tg1 g1)
    (he : ∀ (s : Shared) (H : Hp) (C : Addr) (cl : List (Str × Addr)) (fp : List Addr), PE (X.blk s H scope (compEnvC scope cl C X.env) fp) elt te)
    (hs : ∀ x, foldedSetIterable iter X.env x = pure x := by intro _; rfl) (hs1 : ∀ env x, foldedSetIterable iter1 env x = pure x := by intro _ _; rfl) : PE X (sc2 elt tg iter tg1 iter1 scope pos) (tSc2 X.K X.prog X.w wi g wi1 g1 te (own.map (·.2)) vs1) := by
  refine ⟨fun pins s σ H Q I h => ?_⟩
  rw [PpSet.eval_SetComp]
  have fr : ∀ y ∈ scope.names, y.2 = .free → ∃ c, X.env.cells.lookup y.1 = some c := fun y hy e => (ok.free y hy e).elim (fun k => I.ok.has _ (.inl k)) fun k => I.ok.has _ (.inr k)
  refine wpAny_comprehension_free (use := none) rfl hs (closure_ok fr) ok.kind (fun y hy e => by rw [ok.uniq y hy, e]) (thn (hi.run pins s σ H _ I h) fun xv z1 hx => thn hx fun itv z2 h2 => ?_)
  obtain ⟨it, fp, tn, J, G2, rfl, I2, Tu, st2, f2, q⟩ := h2
  refine PpSet.newSet_ok (newEnv_comp ?_)
  obtain ⟨D, hD⟩ : ∃ D, D = z2.heap.objs.size := ⟨_, rfl⟩
  rw [← hD]
  have Dn : G2 D = none := I2.hok.fresh (Nat.le_of_eq hD.symm)
  obtain ⟨W, ⟨m0, w0⟩, turn⟩ := q D Dn
  obtain ⟨z3, e3⟩ : ∃ z3 : Shared, z3 = { z2 with heap := z2.heap.push { cls := .type "set", dict := none, data := .set #[] 0 (.fresh 0 0 (!X.w.params.followText "set-order")) } } := ⟨_, rfl⟩
  rw [← e3]
  have I3 : Inv X pins σ (upd G2 D (SetTO X.prog X.w D [])) z3 := by
    rw [e3]
    refine I2.laid (t' := z2.toks) (fun b o e => Heap.get?_push_of_some _ e) (Nat.le_of_eq hD.symm) (setTO_new (SetTR.t0 (setTR_fresh ?_)))
    rw [hD]
    exact Heap.get?_push_size _ rfl
  have hp3 : z3.heap = z2.heap.push { cls := .type "set", dict := none, data := .set #[] 0 (.fresh 0 0 (!X.w.params.followText "set-order")) } := by rw [e3]
  have f3 : ∀ b ∈ fp, FpOk X pins (upd G2 D (SetTO X.prog X.w D [])) b ∧ b < z3.heap.objs.size := fun b hb => by
    obtain ⟨o, e, _⟩ := Tu.obj _ _ st2 b hb
    have lt := Heap.lt_size e
    exact ⟨⟨by rw [upd_ne (by rw [hD]; exact Nat.ne_of_lt lt)]; exact (f2 b hb).1, (f2 b hb).2⟩, by rw [hp3, Heap.size_push]; exact Nat.lt_succ_of_lt lt⟩
  have st3 : tn 0 z3.heap := Tu.keep _ _ _ st2 fun b _ o e => by rw [hp3]; exact Heap.get?_push_of_some _ e
  obtain ⟨G3, eG3⟩ : ∃ G3, G3 = upd G2 D (SetTO X.prog X.w D []) := ⟨_, rfl⟩
  rw [← eG3] at I3 f3 w0
  have I4 := block_start I3 ok hN f3
  obtain ⟨cl, ecl⟩ : ∃ cl, cl = cellsFrom (z3.heap.objs.size + 1) scope.names (cloFrom X.env.cells scope.names []) := ⟨_, rfl⟩
  have pg := hg z3 G3 z3.heap.objs.size cl fp
  have pe := he z3 G3 z3.heap.objs.size cl fp
  have pi1 := hi1 z3 G3 z3.heap.objs.size cl fp
  have pg1 := hg1 z3 G3 z3.heap.objs.size cl fp
  show codeAny _ _ (.compStart (sc2 elt tg iter tg1 iter1 scope pos) 0 (.ref it) (.ref D) (compEnvC scope (cellsFrom (z3.heap.objs.size + 1) scope.names (cloFrom X.env.cells scope.names [])) z3.heap.objs.size X.env)) _ { z3 with heap := pushCells (z3.heap.push { cls := .type "dict", data := .dict #[] }) scope.names }
  rw [← ecl] at I4 ⊢
  obtain ⟨ce, ece⟩ : ∃ ce, ce = compEnvC scope cl z3.heap.objs.size X.env := ⟨_, rfl⟩
  rw [← ece] at I4 pg pe pi1 pg1 ⊢
  have cL : ce.locals = z3.heap.objs.size := by rw [ece]; rfl
  have nfp : ∀ b ∈ fp, G3 b = none := fun b hb => (f3 b hb).1.1
  obtain ⟨z4, e4⟩ : ∃ z4 : Shared, z4 = { z3 with heap := pushCells (z3.heap.push { cls := .type "dict", data := .dict #[] }) scope.names } := ⟨_, rfl⟩
  rw [← e4] at I4 ⊢
  have st4 : tn 0 z4.heap := Tu.keep _ _ _ st3 fun b _ o e => by rw [e4]; exact pushCells_keeps _ _ _ _ (Heap.get?_push_of_some _ e)
  let Y : Cx := X.blk z3 G3 scope ce fp
  have stat : ∀ {σ' : L2.St} {H' : Hp} {z : Shared}, Inv Y [] σ' H' z → (∀ b ∈ fp, H' b = none) → ∀ b ∈ fp, FpOk Y [] H' b := fun {σ' H' z} I' hn b hb =>
    ⟨hn b hb, (I'.ok.exf b hb).1, I'.ok.exfs b hb, .inl hb, fun x c e => (I'.ok.exf b hb).2 x c e, fun p hp => absurd (show p ∈ ([] : List (Addr × Obj)) ++ [] from hp) (by simp)⟩
  let In : Nat → Shared → Prop := fun n z => ∃ i H', Inv Y [] (wipe σ (own.map (·.2))) H' z ∧ tn i z.heap ∧ (∀ b ∈ fp, H' b = none) ∧ W i n H'
  have loop : codeAny (model X.prog X.w) X.A (.compLoop (sc2 elt tg iter tg1 iter1 scope pos) 0 (.ref it) (.ref D) ce) (compPost (model X.prog X.w) X.A X.xe none (EP X pins σ Q) (.ref D) z3.heap.objs.size) z4 := by
    refine loopO (hs1 ce) In ?_ m0 ⟨0, G3, I4, st4, nfp, w0⟩
    rintro n z5 ⟨i, G5, I5, st5, n5, w5⟩
    rcases turn i n G5 w5 with ⟨stop, qq⟩ | ⟨go, Nx, hNx, step⟩
    · refine thnF (Tu.done Y rfl rfl rfl hc i [] z5 _ G5 (fun _ _ => False) I5 (stat I5 n5) st5 stop) fun r z6 ⟨hr, I6⟩ => ?_
      subst hr
      have I7 : Inv X pins σ G5 z6 := I3.call' (ch := fp) I6.os I6.base I6.hok I6.bare fun b hb => ⟨(f3 b hb).1.2.2.2.1, (f3 b hb).1.2.1, (f3 b hb).1.2.2.2.2.1, (f3 b hb).1.2.2.2.2.2⟩
      have nC : G5 z3.heap.objs.size = none := by
        have y : G5 ce.locals = none := I6.free
        rw [cL] at y
        exact y
      obtain ⟨m, hn, _⟩ := I6.loc
      have hn : z6.heap.Ns ce.locals m := hn
      rw [cL] at hn
      obtain ⟨g0, ga, gb, gc, gd, ge⟩ := I3.fpOk (Nat.le_refl _) nC
      exact ⟨m, hn, fun h'' sb => ⟨.ref D, G5, I7.turned (t' := z6.toks) (fun b o hb e => (sb.2 b hb).trans e) g0 ga gc gd ge, rfl, qq⟩⟩
    · refine thnF (Tu.item Y rfl rfl rfl hc i [] z5 _ G5 (fun _ _ => False) I5 (stat I5 n5) st5 go) fun r z6 ⟨u, hr, h6⟩ => ?_
      subst hr
      refine thnF h6 fun _ z7 ⟨x, G7, I7, r7, y7, st7, n7⟩ => ?_
      refine thnF (pg.run _ z7 _ G7 x u _ (I7.pinned (stat I7 n7) (Tu.obj _ _ st7)) r7 (step x G7 y7)) fun _ z8 ⟨σ8, G8, I8, hw8, q8⟩ => ?_
      have back : ∀ {σ9 : L2.St} {z : Shared} {H' : Hp}, Inv Y ([] ++ pinsAt fp z7.heap) σ9 H' z → (wipe σ (own.map (·.2))).length = σ9.length → (∀ (j : Nat) v, (wipe σ (own.map (·.2)))[j]? = some (some v) → σ9[j]? = some (some v)) → Nx H' → ∃ m, m < n ∧ In m z := fun {σ9 z H'} I' hl hk nx => by
        obtain ⟨m', hm, w'⟩ := hNx H' nx
        have pin' : ∀ b ∈ fp, ∀ o, z7.heap.get? b = some o → z.heap.get? b = some o ∧ H' b = none := fun b hb o e =>
          let y := I'.pin (b, o) (List.mem_append_right _ (List.mem_append_right _ (mem_pinsAt hb e))); ⟨y.1, y.2.1⟩
        exact ⟨m', hm, i + 1, H', (I'.unpinned (pins := [])).weak hl hk, Tu.keep _ _ _ st7 fun b hb o e => (pin' b hb o e).1, fun b hb => (let ⟨o, e, _⟩ := Tu.obj _ _ st7 b hb; (pin' b hb o e).2), w'⟩
      have hk9 : ∀ (j : Nat) v, (wipe σ (own.map (·.2)))[j]? = some (some v) → (wipe σ8 vs1)[j]? = some (some v) := fun j v e => by
        rw [← hw8] at e
        obtain ⟨e1, e2⟩ := wipe_some e
        rw [wipe_out fun y => e2 (hv j y)]
        exact e1
      have hl8 : (wipe σ (own.map (·.2))).length = σ8.length := by rw [← hw8, wipe_length]
      refine thnF (pi1.run _ z8 σ8 G8 _ I8 q8) fun xv z10 hx => thnF hx fun itv z11 h11 => ?_
      obtain ⟨jt, fp1, tn1, J1, G11, rfl, I11, T1, st11, f11, W1, ⟨m1, w1⟩, turn1⟩ := h11
      have stat1 : ∀ {H' : Hp}, (∀ b ∈ fp1, H' b = none) → ∀ b ∈ fp1, FpOk Y ([] ++ pinsAt fp z7.heap) H' b := fun hn b hb => ⟨hn b hb, (f11 b hb).2⟩
      let In1 : Nat → Shared → Prop := fun k z => ∃ j H', Inv Y ([] ++ pinsAt fp z7.heap) (wipe σ8 vs1) H' z ∧ tn1 j z.heap ∧ (∀ b ∈ fp1, H' b = none) ∧ W1 j k H'
      have loop1 : codeAny (model X.prog X.w) X.A (.compLoop (sc2 elt tg iter tg1 iter1 scope pos) 1 (.ref jt) (.ref D) ce) (fun r z => match r with
            | .ok _ => ∃ m, m < n ∧ In m z
            | .error _ => False) z11 := by
        refine loopI In1 ?_ m1 ⟨0, G11, I11.weak (wipe_length _ _) (fun j v e => (wipe_some e).1), st11, fun b hb => (f11 b hb).1, w1⟩
        rintro k z12 ⟨j, G12, I12, st12, n12, w12⟩
        rcases turn1 j k G12 w12 with ⟨stop1, nx1⟩ | ⟨go1, Nx1, hNx1, step1⟩
        · refine thnF (T1.done Y rfl rfl rfl hc j _ z12 (wipe σ8 vs1) G12 (fun _ _ => False) I12 (stat1 n12) st12 stop1) fun r z13 ⟨hr, I13⟩ => ?_
          subst hr
          exact back I13 (hl8.trans (wipe_length σ8 vs1).symm) hk9 nx1
        · refine thnF (T1.item Y rfl rfl rfl hc j _ z12 (wipe σ8 vs1) G12 (fun _ _ => False) I12 (stat1 n12) st12 go1) fun r z13 ⟨u1, hr, h13⟩ => ?_
          subst hr
          refine thnF h13 fun _ z14 ⟨x1, G14, I14, r14, y14, st14, n14⟩ => ?_
          refine thnF (pg1.run _ z14 (wipe σ8 vs1) G14 x1 u1 _ (I14.pinned (stat1 n14) (T1.obj _ _ st14)) r14 (step1 x1 G14 y14)) fun _ z15 ⟨σ15, G15, I15, hw15, q15⟩ => ?_
          refine thnF (pe.run _ z15 σ15 G15 _ I15 q15) fun zv z17 ⟨yv, G17, I17, r17, b, ns, Lm, ey, sb, hD17, hL, hz17, nx⟩ => ?_
          subst ey
          obtain rfl : zv = Value.ref b := r17
          refine addT_ok (X := Y) I17 hu hD17 hL sb hz17 fun L' z18 c1 c2 I18 => ?_
          obtain ⟨m', hm, w'⟩ := hNx1 _ (nx L' c1 c2)
          have pin' : ∀ b ∈ fp1, ∀ o, z14.heap.get? b = some o → z18.heap.get? b = some o ∧ upd G17 D (SetTO X.prog X.w D L') b = none := fun b hb o e =>
            let y := I18.pin (b, o) (List.mem_append_right _ (List.mem_append_right _ (mem_pinsAt hb e))); ⟨y.1, y.2.1⟩
          exact ⟨m', hm, j + 1, _, I18.unpinned.weak (by rw [← hw15, wipe_length]) (fun j v e => by rw [← hw15] at e; exact (wipe_some e).1), T1.keep _ _ _ st14 fun b hb o e => (pin' b hb o e).1, fun b hb => (let ⟨o, e, _⟩ := T1.obj _ _ st14 b hb; (pin' b hb o e).2), w'⟩
      exact startI loop1 (T1.self X.A 0 _ _ _ st11 loop1)
  exact PpSet.codeAny_compStart_set loop (Tu.self X.A 0 _ _ _ st4 loop)
end
end
end DL
/-! DC2: sorted({..}), by data -/
namespace DL
open PySem L2 PyProof.Rows
noncomputable section
theorem perm_map_inv {α β : Type} {f : α → β} {a b : List β} (h : a.Perm b) : ∀ L : List α, b = L.map f → ∃ L' : List α, L'.Perm L ∧ a = L'.map f := by
  induction h with
  | nil => intro L e; exact ⟨L, .refl _, e⟩
  | cons x h ih =>
    intro L e
    cases L with
    | nil => simp at e
    | cons y L =>
      simp only [List.map_cons, List.cons.injEq] at e
      obtain ⟨L', h1, h2⟩ := ih L e.2
      exact ⟨y :: L', h1.cons y, by rw [List.map_cons, e.1, h2]⟩
  | swap x y l =>
    intro L e
    cases L with
    | nil => simp at e
    | cons u L =>
      cases L with
      | nil => simp at e
      | cons v L =>
        simp only [List.map_cons, List.cons.injEq] at e
        exact ⟨v :: u :: L, .swap u v L, by simp [e.1, e.2.1, e.2.2]⟩
  | trans h1 h2 ih1 ih2 =>
    intro L e
    obtain ⟨L1, p1, e1⟩ := ih2 L e
    obtain ⟨L2, p2, e2⟩ := ih1 L1 e1
    exact ⟨L2, p2.trans p1, e2⟩
abbrev tupI (ns : List Int) : D := .tup (ns.map .int)
abbrev pairI (p : Addr × List Int) : V × D := (V.ref p.1, tupI p.2)
section
variable {X : Cx} {T : Tx}
def rSortS (P : Program) (w : World) : List V → Hp → VK → Prop := fun vs H Q => ∃ (a : Addr) (L : Mem) (Hs : Hp), vs = [.ref a] ∧ H a = some (SetTO P w a L) ∧ Same Hs H ∧ (∀ p ∈ L, Hs p.1 = some (.tup (p.2.map V.int))) ∧ SortOk (L.map fun p => tupI p.2) ∧
  ∀ (L' : Mem) p, H p = none → L'.Perm L → Q (.ref p) (upd H p (.lst (L'.map fun q => V.ref q.1)))
theorem each_mem2 : ∀ (L : Mem), PySem.W.EachIs (fun v (b : V × D) => L2.RelV b.1 v) (L.map fun q => Value.ref q.1) (L.map pairI)
  | [] => .nil
  | p :: L => .cons rfl (each_mem2 L)
theorem c_sortS (hc : X.calm = true) (hu : X.A.units + 65 < cLine) : CallR X (.builtin "sorted") (rSortS X.prog X.w) := by
  intro pins s σ H vs us Q I r h
  obtain ⟨a, L, Hs, rfl, ha, sm, ht, ok, q⟩ := h
  rw [Vals.ref1 r]
  have R0 : SetT0 X.prog X.w s.heap a L := (I.hok a _ ha).1
  obtain ⟨es, ep, t, R⟩ := R0.full fun p hp => I.isT (SqT.of (sm _ _ (ht p hp)))
  obtain ⟨o, ho, hex, hd⟩ := R.ob
  have hfew := R.few
  have hsz := R.size
  have e2 : (L.map pairI).map (·.2) = L.map fun p => tupI p.2 := by rw [List.map_map]; rfl
  have bound : ∀ {n : Nat}, n < 64 → n ≤ sizeLine := fun h => by rw [sizeLine_eq]; omega
  refine sorted_via (C := Inv X pins σ H) (bs := L.map pairI) (by rw [e2]; exact ok) (by rw [List.length_map]; exact bound hfew) (by omega) (fun b hb v rv => ?_) (fun Qc Ec k => ?_) fun s1 s' p out c bs' I1 k g oo hp hg ev pm pw => ?_
  · obtain ⟨p, hp, rfl⟩ := List.mem_map.mp hb
    have r0 : Rp (T := ⟨X.prog, X.w, 0, 0⟩) H (.ref p.1) (tupI p.2) := .tup (sm _ _ (ht p hp)) (RpA.ints _)
    exact Dp.reads I _ _ _ (r0.dp (n := 2) (by simp [tupI])) rv
  · have hh : X.A.in1.handled = none := I.ok.hd hc
    refine collect_set (A := X.A.in1) hh ⟨o, ho, hex.1, hd⟩ R.fits (by unfold scanBound; omega) R.tab.ris R.led fun s1 vs k1 hz g1 o1 pm => ?_
    have hes : es.toList.map (·.2) = L.map fun q => Value.ref q.1 := by
      rw [R.rows]
      unfold rowsOf
      rw [List.map_map]
      rfl
    rw [hes] at pm
    obtain ⟨L', p1, rfl⟩ := perm_map_inv pm L rfl
    have J : Inv X pins σ H s1 := I.call' (ch := []) o1 (Un.kept k1) (I.hok.kept k1) (by rw [g1]; exact I.bare) (fun _ z => nomatch z)
    exact k s1 _ _ J k1 (p1.map pairI) (each_mem2 L')
  · obtain ⟨L', p1, e1⟩ := perm_map_inv pm L rfl
    subst e1
    have hn : H p = none := I1.hok.fresh hp
    have hv : Vals (L'.map fun q => V.ref q.1) out := by
      have := vals_of_each ev
      rw [List.map_map] at this
      exact this
    have hlen : (L'.map fun q => V.ref q.1).length ≤ sizeLine := by rw [List.length_map, p1.length_eq]; exact bound hfew
    have J : Inv X pins σ (upd H p (.lst (L'.map fun q => V.ref q.1))) { s1 with heap := s'.heap, gens := s'.gens, drawn := s'.drawn, toks := s'.toks } :=
      I1.call (ch := []) (Un.laid k hp hn) (I1.hok.laid k hp ⟨hlen, out, c, hv, hg⟩) (by rw [g]; exact I1.bare) (fun _ z => nomatch z)
    have e : s' = { s1 with heap := s'.heap, gens := s'.gens, drawn := s'.drawn, toks := s'.toks } := by
      cases s'; cases s1; cases oo; rfl
    rw [e]
    exact ⟨.ref p, _, J, rfl, q L' p hn p1⟩
end
section
variable {T : Tx} {K : PySem.W.Frag} {te : TE} {pe : PE1}
@[reducible, simp] def pSortS (pi : PA1) (g : D → En → (En → Prop) → Prop) (sl : List Nat) (pi1 : PA1) (g1 : D → En → (En → Prop) → Prop) (sl1 : List Nat) (pe : PE1) (vs vs1 : List Nat) : PA1 := fun ρ P => pi ρ fun items => (∀ i ∈ sl, i ∈ vs) ∧ (∀ i ∈ sl1, i ∈ vs1) ∧ ∃ I : Nat → List (List Int) → Prop, I 0 [] ∧
  (∀ i d acc, items[i]? = some d → I i acc → g d (wipeK ρ vs) fun ρ' => pi1 ρ' fun items1 => ∃ I1 : Nat → List (List Int) → Prop, I1 0 acc ∧
    (∀ j e acc1, items1[j]? = some e → I1 j acc1 → g1 e (wipeK ρ' vs1) fun ρ2 => pe ρ2 fun r => ∃ ns, r = tupI ns ∧ acc1.length + 1 < 64 ∧ ∀ acc2, (ns ∈ acc1 → acc2 = acc1) → (ns ∉ acc1 → acc2.Perm (ns :: acc1)) → I1 (j + 1) acc2) ∧
    ∀ acc1, I1 items1.length acc1 → I (i + 1) acc1) ∧
  ∀ acc, I items.length acc → SortOk (acc.map tupI) ∧ ∀ fs : List (List Int), fs.Perm acc → P (fs.map tupI)
theorem mask_eq {M M' : List Addr} {H : Hp} (h : ∀ b, b ∈ M ↔ b ∈ M') : mask M H = mask M' H := by
  funext b
  by_cases q : b ∈ M
  · rw [mask_in q, mask_in ((h b).mp q)]
  · rw [mask_out q, mask_out fun z => q ((h b).mpr z)]
theorem OwnAt.move2 {c c' : Cfg} {L L' : List Addr} {H H' : Hp} (hd : c'.dr = c.dr) (e : Same (mask (L ++ c.M) H) (mask (L' ++ c'.M) H')) : ∀ {k : Kn} {v : V}, OwnAt T c L H k v → (∀ a ∈ k.adr v, a ∈ L' ∧ H' a = H a) → OwnAt T c' L' H' k v
  | .v _, _, h, _ => Rp.mono e h
  | .dr, _, ⟨a, h1, h2⟩, _ => ⟨a, by rw [hd]; exact h1, h2⟩
  | .o _, _, ⟨a, xs, e1, h, h2, h3⟩, q => by
    subst e1
    obtain ⟨q1, q2⟩ := q a (by simp [Kn.adr])
    exact ⟨a, xs, rfl, q1, q2.trans h2, h3.mono e⟩
  | .od _ _, _, ⟨a, xs, e1, h, ⟨ep, h2⟩, h3⟩, q => by
    subst e1
    obtain ⟨q1, q2⟩ := q a (by simp [Kn.adr])
    exact ⟨a, xs, rfl, q1, ⟨ep, q2.trans h2⟩, h3.mono e⟩
  | .wt none, _, ⟨a, e1, h, h2⟩, q => by
    subst e1
    obtain ⟨q1, q2⟩ := q a (by simp [Kn.adr])
    exact ⟨a, rfl, q1, q2.trans h2⟩
  | .wt (some (b, k, ds)), _, ⟨a, xs, e1, h, h2, h3, h4, h5, h6⟩, q => by
    subst e1
    obtain ⟨q1, q2⟩ := q a (by simp [Kn.adr])
    obtain ⟨q3, q4⟩ := q b (by simp [Kn.adr])
    exact ⟨a, xs, rfl, q1, q3, h3, q2.trans h4, q4.trans h5, h6.mono e⟩
  | .slf a C ns ds, _, ⟨dx, vs, e1, h, h2, h3, h4⟩, q => by
    subst e1
    obtain ⟨q1, q2⟩ := q a (by simp [Kn.adr])
    exact ⟨dx, vs, rfl, q1, q2.trans h2, h3, h4.mono e⟩
  | .scr K ns, _, ⟨a, e1, h⟩, _ => ⟨a, e1, SqL.mono e h⟩
/-- c with one more thing that nothing leans on -/
def Cfg.more (c : Cfg) (a : Addr) : Cfg := ⟨a :: c.M, c.dr⟩
theorem Stp.more {c : Cfg} {a : Addr} {H H' : Hp} (e : Stp c H H') : Stp (c.more a) H H' := ⟨e.keep, e.dr⟩
theorem Stp.less {c : Cfg} {a : Addr} {H H' : Hp} (e : Stp (c.more a) H H') : Stp c H H' := ⟨e.keep, e.dr⟩
theorem mem_more {c : Cfg} {L : List Addr} {a b : Addr} : b ∈ (a :: L) ++ c.M ↔ b ∈ L ++ (c.more a).M := by
  simp only [Cfg.more, List.mem_append, List.mem_cons]
  constructor
  · rintro ((h | h) | h)
    · exact .inr (.inl h)
    · exact .inl h
    · exact .inr (.inr h)
  · rintro (h | h | h)
    · exact .inl (.inr h)
    · exact .inl (.inl h)
    · exact .inr h
theorem SOk.inM {c : Cfg} {L : List Addr} {H H' : Hp} {σ : L2.St} {ρ : En} (s : SOk T c L H σ ρ) {a : Addr} (st : Stp c H H') (n : H a = none) (e : NT H' a) : SOk T (c.more a) L H' σ ρ := by
  have s1 := s.addK st n e
  have nl : a ∉ L ++ c.M := s.fresh n
  refine ⟨⟨fun b hb => ⟨List.mem_cons_of_mem _ (s.ok.drM b hb).1, List.mem_cons_of_mem _ (s.ok.drM b hb).2⟩⟩, s1.len, fun i k h => ?_, s1.inj, fun b hb => s1.lst b (mem_more.mpr hb), fun b hb z => ?_, s1.dok⟩
  · obtain ⟨v, h1, h2⟩ := s1.all i k h
    obtain ⟨v', h1', h2'⟩ := s.all i k h
    rw [h1] at h1'
    cases h1'
    exact ⟨v, h1, h2.move2 (c := c) (c' := c.more a) (L := a :: L) (L' := L) rfl (by rw [mask_eq (fun b => mem_more (a := a) (c := c) (L := L) (b := b))]; exact fun _ _ q => q) fun b hb => ⟨h2'.inL b hb, rfl⟩⟩
  · rcases List.mem_cons.mp z with rfl | z
    · exact nl (List.mem_append_left _ hb)
    · exact s.LM b hb z
theorem SOk.outM {c : Cfg} {L : List Addr} {H : Hp} {σ : L2.St} {ρ : En} {a : Addr} (s : SOk T (c.more a) L H σ ρ) (ok : c.Ok) (n : a ∉ c.M) : SOk T c (a :: L) H σ ρ := by
  refine ⟨ok, s.len, fun i k h => ?_, s.inj, fun b hb => s.lst b (mem_more.mp hb), fun b hb => ?_, s.dok⟩
  · obtain ⟨v, h1, h2⟩ := s.all i k h
    exact ⟨v, h1, h2.move2 (c := c.more a) (c' := c) (L := L) (L' := a :: L) rfl (by rw [← mask_eq (fun b => mem_more (a := a) (c := c) (L := L) (b := b))]; exact fun _ _ q => q) fun b hb => ⟨List.mem_cons_of_mem _ (h2.inL b hb), rfl⟩⟩
  · rcases List.mem_cons.mp hb with rfl | hb
    · exact n
    · exact fun z => s.LM b hb (List.mem_cons_of_mem _ z)
/-- a thing of M changes -/
theorem SOk.chgM {c : Cfg} {L : List Addr} {H : Hp} {σ : L2.St} {ρ : En} {a : Addr} {o : HO} (s : SOk T c L H σ ρ) (aM : a ∈ c.M) (ho : ∀ xs, o ≠ .tup xs) (hd : ∀ b, c.dr = some b → b.1 ≠ a ∧ b.2 ≠ a) : SOk T c L (upd H a o) σ ρ := by
  have hm : mask (L ++ c.M) (upd H a o) = mask (L ++ c.M) H := mask_chg (List.mem_append_right _ aM)
  refine ⟨s.ok, s.len, fun j d' h => ?_, s.inj, fun b hb => ?_, s.LM, fun b hb => ?_⟩
  · obtain ⟨v, h1, h2⟩ := s.all j d' h
    refine ⟨v, h1, h2.move (by rw [hm]; exact fun _ _ q => q) fun x hx => ⟨h2.inL x hx, upd_ne ?_⟩⟩
    rintro rfl
    exact s.LM _ (h2.inL _ hx) aM
  · by_cases q : b = a
    · subst q; exact ⟨o, upd_same, ho⟩
    · obtain ⟨u, h1, h2⟩ := s.lst b hb
      exact ⟨u, by rw [upd_ne q]; exact h1, h2⟩
  · obtain ⟨p, ns, e1, e2, e3, e4⟩ := s.dok b hb
    exact ⟨p, ns, by rw [upd_ne (hd b hb).1]; exact e1, e2, by rw [upd_ne (hd b hb).2]; exact e3, e4⟩
/-- all but a fresh thing is kept -/
theorem Stp.chgN {c : Cfg} {H H' : Hp} {a : Addr} {o : HO} (e : Stp c H H') (n : H a = none) : Stp c H (upd H' a o) := by
  refine ⟨fun b u nb q => ?_, fun b hb q => ?_⟩
  · rw [upd_ne (ne_of_none q n)]
    exact e.keep b u nb q
  · obtain ⟨p0, ns0, q1, q2, q3, q4⟩ := q
    obtain ⟨p, ns, e1, e2, e3, e4⟩ := e.dr b hb ⟨p0, ns0, q1, q2, q3, q4⟩
    exact ⟨p, ns, by rw [upd_ne (ne_of_none q1 n)]; exact e1, e2, by rw [upd_ne (ne_of_none q3 n)]; exact e3, e4⟩
instance {wi wi1 : TI} {g g1 : TG} {pi pi1 : PA1} {p p1 : D → En → (En → Prop) → Prop} {sl sl1 vs vs1 : List Nat} [h0 : SI T wi pi] [hg : SG T g p sl] [h01 : SI T wi1 pi1] [hg1 : SG T g1 p1 sl1] [he : SE T te pe] :
    SF T (tCB (rSortS T.prog T.w) (tCons (tSc2 K T.prog T.w wi g wi1 g1 te vs vs1) tNil)) (pSortS pi p sl pi1 p1 sl1 pe vs vs1) where
  run := fun {c L H σ ρ P Q} s h k => h0.run s h fun J n G Y H1 items w hn st h2 hG hY => by
    obtain ⟨hsl, hsl1, I, i0, it, ie⟩ := h2
    have S := s.step st
    intro Dn nD
    have nt : ∀ Lm : Mem, ∀ xs, SetTO T.prog T.w Dn Lm ≠ .tup xs := fun Lm xs e => nomatch e
    have S0 : SOk T (c.more Dn) L (upd H1 Dn (SetTO T.prog T.w Dn [])) (wipe σ vs) (wipeK ρ vs) := (S.wipe vs).inM (.same (Same.new nD)) nD ⟨_, upd_same, nt []⟩
    have ndD : c.nd Dn := S.nodr' nD
    have okD : ∀ b, (c.more Dn).dr = some b → b.1 ≠ Dn ∧ b.2 ≠ Dn := fun b hb => by
      obtain ⟨p, ns, e1, e2, e3, e4⟩ := S.dok b hb
      exact ⟨ne_of_none e1 nD, ne_of_none e3 nD⟩
    have DM : Dn ∈ (c.more Dn).M := List.mem_cons_self
    let Fit : Hp → List (List Int) → Prop := fun H' acc => ∃ Lm : Mem, H' Dn = some (SetTO T.prog T.w Dn Lm) ∧ (∀ q ∈ Lm, mask (L ++ (c.more Dn).M) H' q.1 = some (.tup (q.2.map V.int))) ∧ Lm.map (·.2) = acc
    have fitStep : ∀ {Ha Hb : Hp} {acc}, Stp c Ha Hb → Fit Ha acc → Fit Hb acc := fun {Ha Hb acc} z ⟨Lm, h1, h2, h3⟩ => ⟨Lm, z.keep Dn _ ndD h1, fun q hq => by
      obtain ⟨q1, q2⟩ := mask_some (h2 q hq)
      rw [mask_out q1]
      exact z.keep _ _ (s.ok.out fun y => q1 (List.mem_append_right _ (List.mem_cons_of_mem _ y))) q2, h3⟩
    let Pv : Nat → Hp → Prop := fun i H' => SOk T (c.more Dn) L H' (wipe σ vs) (wipeK ρ vs) ∧ Stp c H1 H' ∧ ∃ acc, Fit H' acc ∧ I i acc
    refine ⟨fun i m H' => m = n - i ∧ i ≤ n ∧ Pv i H', ⟨n, by simp, Nat.zero_le _, S0, .same (Same.new nD), [], ⟨[], upd_same, fun q hq => (nomatch hq), rfl⟩, i0⟩, ?_⟩
    rintro i m H' ⟨rfl, hi, s', e', acc, fit, hI⟩
    have thr : Thr T c L H1 (Dn :: L) H' := by
      refine ⟨⟨fun b o nb q => e'.keep b o nb (mask_some q).2, fun a ha q => e'.dr a ha (q.same (mask_le L H1))⟩, fun a ha => ?_, fun a ha => s'.lst a (mem_more.mp ha), fun a ha => ?_⟩
      · rcases List.mem_cons.mp ha with rfl | ha
        · by_cases hb : a ∈ L
          · exact mask_in hb
          · rw [mask_out hb]; exact nD
        · exact mask_in ha
      · rcases List.mem_cons.mp ha with rfl | ha
        · exact fun z => S.fresh nD (List.mem_append_right _ z)
        · exact s.LM a ha
    have hGs := hG _ _ thr
    by_cases hlt : i < n
    · refine .inr ⟨w.goes i H' hlt hGs, Pv (i + 1), fun H'' p' => ⟨n - (i + 1), by omega, rfl, hlt, p'⟩, fun x H'' y => ?_⟩
      obtain ⟨d, hd, st2, r2⟩ := hY i x _ H' H'' hlt thr (w.yields i H' x H'' hlt hGs y)
      rw [mask_eq (fun b => mem_more (a := Dn) (c := c) (L := L) (b := b))] at r2
      refine hg.run (s'.step st2.more) r2 (it i d acc hd hI) fun σ2 ρ2 s2 h2 hw => ⟨by rw [hw vs hsl]; exact wipe_wipe σ vs, ?_⟩
      have nM : Dn ∉ c.M := fun z => S.fresh nD (List.mem_append_right _ z)
      refine h01.run (s2.outM s.ok nM) h2 fun J1 n1 G1 Y1 H3 items1 w1 hn1 st3 h3 hG1 hY1 => ?_
      obtain ⟨I1, i10, it1, ie1⟩ := h3
      let Qv : Nat → Hp → Prop := fun j Hc => SOk T (c.more Dn) L Hc (wipe σ2 vs1) (wipeK ρ2 vs1) ∧ SOk T (c.more Dn) L Hc (wipe σ vs) (wipeK ρ vs) ∧ Stp c H1 Hc ∧ Stp c (mask (Dn :: L) H3) Hc ∧ ∃ acc, Fit Hc acc ∧ I1 j acc
      have z0 : Stp c H' H3 := st2.trans st3
      refine ⟨fun j k Hc => k = n1 - j ∧ j ≤ n1 ∧ Qv j Hc, ⟨n1, by simp, Nat.zero_le _, (s2.step st3.more).wipe vs1, s'.step z0.more, e'.trans z0, .same (mask_le _ _), acc, fitStep z0 fit, i10⟩, ?_⟩
      rintro j k Hc ⟨rfl, hj, sA, sB, eA, eB, acc1, fit1, hI1⟩
      have thr1 : Thr T c (Dn :: L) H3 (Dn :: L) Hc := ⟨eB, fun a ha => mask_in ha, fun a ha => sA.lst a (mem_more.mp ha), fun a ha => (sA.outM s.ok nM).LM a ha⟩
      have hG1s := hG1 _ _ thr1
      by_cases hlt1 : j < n1
      · refine .inr ⟨w1.goes j Hc hlt1 hG1s, Qv (j + 1), fun H'' p' => ⟨n1 - (j + 1), by omega, rfl, hlt1, p'⟩, fun x1 Hd y1 => ?_⟩
        obtain ⟨d1, hd1, st4, r4⟩ := hY1 j x1 _ Hc Hd hlt1 thr1 (w1.yields j Hc x1 Hd hlt1 hG1s y1)
        rw [mask_eq (fun b => mem_more (a := Dn) (c := c) (L := L) (b := b))] at r4
        refine hg1.run (sA.step st4.more) r4 (it1 j d1 acc1 hd1 hI1) fun σ3 ρ3 s3 h3 hw1 => ⟨by rw [hw1 vs1 hsl1]; exact wipe_wipe σ2 vs1, ?_⟩
        refine he.run s3 h3 fun v r H5 st5 r5 h5 => ?_
        obtain ⟨ns, rfl, few, nx⟩ := h5
        obtain ⟨b, xs, rfl, hb, rx⟩ := r5.tup_inv
        have ex := rx.ints_inv
        subst ex
        have z := st4.trans st5.less
        obtain ⟨Lm, f1, f2, f3⟩ := fitStep z fit1
        subst f3
        refine ⟨b, ns, Lm, rfl, SqT.of (mask_some hb).2, f1, fun q hq => SqT.of (mask_some (f2 q hq)).2, by simpa using few, fun L' c1 c2 => ?_⟩
        have hm : mask (L ++ (c.more Dn).M) (upd H5 Dn (SetTO T.prog T.w Dn L')) = mask (L ++ (c.more Dn).M) H5 := mask_chg (List.mem_append_right _ DM)
        refine ⟨(sA.step z.more).chgM DM (nt L') okD, (sB.step z.more).chgM DM (nt L') okD, (eA.trans z).chgN nD, (eB.trans z).chgN (mask_in List.mem_cons_self), L'.map (·.2), ⟨L', upd_same, fun q hq => ?_, rfl⟩, nx _ (fun hm => ?_) fun hm => ?_⟩
        · rw [hm]
          by_cases hin : ns ∈ Lm.map (·.2)
          · rw [c1 hin] at hq
            exact f2 q hq
          · rcases List.mem_cons.mp ((c2 hin).mem_iff.mp hq) with rfl | hq
            · exact hb
            · exact f2 q hq
        · rw [c1 hm]
        · exact (c2 hm).map (·.2)
      · have e : j = n1 := by omega
        subst e
        refine .inl ⟨w1.stops Hc hG1s, sB, eA, acc1, fit1, ie1 acc1 (by rw [hn1]; exact hI1)⟩
    · have e : i = n := by omega
      subst e
      refine .inl ⟨w.stops H' hGs, ?_⟩
      obtain ⟨so, fin⟩ := ie acc (by rw [hn]; exact hI)
      obtain ⟨Lm, f1, f2, rfl⟩ := fit
      have em : Lm.map (fun p => tupI p.2) = (Lm.map (·.2)).map tupI := by rw [List.map_map]; rfl
      refine ⟨Dn, Lm, mask (L ++ (c.more Dn).M) H', rfl, f1, mask_le _ _, f2, by rw [em]; exact so, fun L' p hp pm => ?_⟩
      have e1 : Stp c H1 (upd H' p (.lst (L'.map fun q => V.ref q.1))) := e'.trans (.same (Same.new hp))
      have s1 := s'.outM s.ok (fun z => S.fresh nD (List.mem_append_right _ z))
      have fin' := fin (L'.map (·.2)) (pm.map (·.2))
      refine k p _ _ _ (st.trans e1) ((st.trans e').free hp (s1.nodr' hp)) upd_same ?_ fin'
      have ee : (L'.map (·.2)).map tupI = L'.map fun q => tupI q.2 := by rw [List.map_map]; rfl
      rw [ee]
      have each : ∀ Lx : Mem, (∀ q ∈ Lx, q ∈ Lm) → RpA T (mask (p :: (L ++ c.M)) (upd H' p (.lst (L'.map fun q => V.ref q.1)))) (Lx.map fun q => V.ref q.1) (Lx.map fun q => tupI q.2) := fun Lx => by
        induction Lx with
        | nil => intro _; exact .nil
        | cons q Lx ih =>
          intro hq
          obtain ⟨q1, q2⟩ := mask_some (f2 q (hq q List.mem_cons_self))
          have ne : q.1 ≠ p := ne_of_none q2 hp
          refine .cons (.tup (xs := q.2.map V.int) ?_ (RpA.ints _)) (ih fun u hu => hq u (List.mem_cons_of_mem _ hu))
          rw [mask_out, upd_ne ne]
          · exact q2
          · simp only [List.mem_cons, not_or]
            exact ⟨ne, fun z => q1 (mem_more.mp (List.mem_append.mpr ((List.mem_append.mp z).imp (List.mem_cons_of_mem _) id)))⟩
      exact each L' fun q hq => pm.mem_iff.mp hq
end
end
end DL
/-! DW: a dict of at most one list, int keys -/
namespace DL
open PySem L2 PyProof.Rows
noncomputable section
section
variable {T : Tx} {K : PySem.W.Frag} {te : TE} {pe : PE1}
theorem SOk.own_w {c : Cfg} {L : List Addr} {H : Hp} {σ : L2.St} {ρ : En} (s : SOk T c L H σ ρ) {i : Nat} {z : Option (Addr × Int × List D)} (h : ρ[i]? = some (some (.wt z))) :
    ∃ a, σ[i]? = some (some (.ref a)) ∧ a ∈ L ∧ ((z = none ∧ H a = some (.dK [])) ∨ ∃ b k ds xs, z = some (b, k, ds) ∧ b ∈ L ∧ b ≠ a ∧ H a = some (.dK [(.inl k, .ref b)]) ∧ H b = some (.lst xs) ∧ RpA T (mask (L ++ c.M) H) xs ds) := by
  obtain ⟨v, h1, h2⟩ := s.all i _ h
  cases z with
  | none => obtain ⟨a, rfl, h3, h4⟩ := h2; exact ⟨a, h1, h3, .inl ⟨rfl, h4⟩⟩
  | some z =>
    obtain ⟨b, k, ds⟩ := z
    obtain ⟨a, xs, rfl, h3, h4, h5, h6, h7, h8⟩ := h2
    exact ⟨a, h1, h3, .inr ⟨b, k, ds, xs, rfl, h4, h5, h6, h7, h8⟩⟩
/-- x = {k0: [..]} -/
@[reducible, simp] def qNewW (i : Nat) (k0 : Int) (p : PA1) : PS1 := fun ρ F => p ρ fun ds => D.imA ds = true ∧ ∀ b, F.nx (ρ.set i (some (.wt (some (b, k0, ds)))))
instance (priority := high) {i : Nat} {k0 : Int} {p : PA1} [he : SF T te p] : SS T (tAsg (tDisp [(tC (.int k0), te)]) (gOwn i)) (qNewW i k0 p) where
  run := fun {c L H H0 σ ρ F D} s e f h o => fun pa hpa => by
    have st1 : Stp c H (upd H pa (.dK [])) := .same (Same.new hpa)
    refine he.run (s.step st1) h fun b xs ds H' st n eb r h1 => ?_
    obtain ⟨him, h1⟩ := h1
    have nb : b ≠ pa := fun z => by rw [z, upd_same] at n; cases n
    have nb0 : H b = none := by rw [upd_ne nb] at n; exact n
    have ndp : c.nd pa := s.nodr' hpa
    have epa : H' pa = some (.dK []) := st.keep pa _ ndp upd_same
    refine ⟨epa, [(.inl k0, .ref b)], rfl, by show 1 ≤ 15; omega, ?_⟩
    have em : mergeK ([] : List (L2.Key × V)) [(.inl k0, .ref b)] = [(.inl k0, .ref b)] := by simp [mergeK, putK]
    rw [em]
    have st2 : Stp c H (upd H' pa (.dK [(.inl k0, .ref b)])) := (st1.trans st).chgN hpa
    have S := s.setk (i := i) (A := [pa, b]) (v := .ref pa) (k := .wt (some (b, k0, ds))) st2 (fun x hx => ?_) (fun x hx => ?_) ⟨pa, xs, rfl, by simp, by simp, nb, upd_same, by rw [upd_ne nb]; exact eb, ?_⟩ (fun x hx => hx)
    · refine o.nx _ _ _ _ S (e.trans st2) (fun x hx => ?_) (h1 b)
      rcases List.mem_append.mp hx with hx | hx
      · have q : x = pa ∨ x = b := by simpa using hx
        rcases q with rfl | rfl
        · exact Stp.new_none s e hpa
        · exact Stp.new_none s e nb0
      · exact f x hx
    · have q : x = pa ∨ x = b := by simpa using hx
      rcases q with rfl | rfl
      · exact hpa
      · exact nb0
    · have q : x = pa ∨ x = b := by simpa using hx
      rcases q with rfl | rfl
      · exact ⟨_, upd_same, fun _ z => nomatch z⟩
      · exact .lst (xs := xs) (by rw [upd_ne nb]; exact eb)
    · refine r.im (fun y ys q => ?_) him
      obtain ⟨q1, q2⟩ := mask_some q
      have ny : y ≠ pa := fun z => by rw [z, epa] at q2; cases q2
      rw [mask_out, upd_ne ny]
      · exact q2
      · intro z
        rw [List.append_assoc] at z
        rcases List.mem_append.mp z with z | z
        · have z' : y = pa ∨ y = b := by simpa using z
          rcases z' with z' | z'
          · exact ny z'
          · exact q1 (by rw [z']; exact List.mem_cons_self)
        · exact q1 (List.mem_cons_of_mem _ z)
/-- len(x) -/
def rLenK : List V → Hp → VK → Prop := fun xs H Q => ∃ (a : Addr) (kvs : List (L2.Key × V)), xs = [V.ref a] ∧ H a = some (.dK kvs) ∧ Q (.int kvs.length) H
theorem c_lenK {X : Cx} : CallR X (.builtin "len") rLenK := call_lenD
@[reducible, simp] def pLenW (i : Nat) : PE1 := fun ρ P => ∃ z, ρ[i]? = some (some (.wt z)) ∧ P (.int (if z.isSome then 1 else 0))
instance (priority := high) {i : Nat} : SE T (tCB rLenK (tCons (tVar i) tNil)) (pLenW i) where
  run := fun {c L H σ ρ P Q} s h k => by
    obtain ⟨z, hz, h⟩ := h
    obtain ⟨a, h1, h2, q⟩ := s.own_w hz
    refine ⟨_, h1, ?_⟩
    rcases q with ⟨rfl, q⟩ | ⟨b, kk, ds, xs, rfl, q1, q2, q3, q4, q5⟩
    · exact ⟨a, [], rfl, q, k _ _ _ (Stp.refl _ _) (.int _) h⟩
    · exact ⟨a, _, rfl, q3, k _ _ _ (Stp.refl _ _) (.int _) h⟩
/-- min(list(x)) -/
def rListK : List V → Hp → VK → Prop := fun xs H Q => ∃ (a : Addr) (kvs : List (L2.Key × V)), xs = [.ref a] ∧ Rd H a (.dK kvs) ∧ ∀ p, H p = none → Q (.ref p) (upd H p (.lst (kvs.map fun kv => kV kv.1)))
theorem c_listK {X : Cx} (hc : X.calm = true) : CallR X (.type "list") rListK := call_listD hc
def rMinL (K : PySem.W.Frag) : List V → Hp → VK → Prop := rMin K
theorem c_minL {X : Cx} (hc : X.calm = true) : CallR X (.builtin "min") (rMinL X.K) := cr_min hc
@[reducible, simp] def pMinW (i : Nat) : PE1 := fun ρ P => ∃ b k ds, ρ[i]? = some (some (.wt (some (b, k, ds)))) ∧ P (.int k)
instance (priority := high) {i : Nat} : SE T (tCB (rMinL K) (tCons (tCB rListK (tCons (tVar i) tNil)) tNil)) (pMinW i) where
  run := fun {c L H σ ρ P Q} s h k => by
    obtain ⟨b, kk, ds, hz, h⟩ := h
    obtain ⟨a, h1, h2, q⟩ := s.own_w hz
    rcases q with ⟨q, _⟩ | ⟨b', k', ds', xs, q, q1, q2, q3, q4, q5⟩
    · cases q
    cases q
    refine ⟨_, h1, a, _, rfl, .inl q3, fun p hp => ⟨p, [kk], rfl, SqL.of upd_same, by show 0 < 1; omega, fun m hm _ => ?_⟩⟩
    have e : m = kk := by simpa using hm
    subst e
    exact k _ _ _ (.same (Same.new hp)) (.int _) h
theorem SOk.dropL {c : Cfg} {L : List Addr} {H : Hp} {σ : L2.St} {ρ : En} (s : SOk T c L H σ ρ) {b : Addr} (no : ∀ (i : Nat) k v, ρ[i]? = some (some k) → σ[i]? = some (some v) → b ∉ k.adr v) : SOk T c (L.filter fun x => decide (x ≠ b)) H σ ρ := by
  have sub : ∀ x ∈ (L.filter fun x => decide (x ≠ b)) ++ c.M, x ∈ L ++ c.M := fun x hx => by
    rcases List.mem_append.mp hx with hx | hx
    · exact List.mem_append_left _ (List.mem_filter.mp hx).1
    · exact List.mem_append_right _ hx
  refine ⟨s.ok, s.len, fun i k h => ?_, s.inj, fun x hx => s.lst x (sub x hx), fun x hx => s.LM x (List.mem_filter.mp hx).1, s.dok⟩
  obtain ⟨v, h1, h2⟩ := s.all i k h
  refine ⟨v, h1, h2.move (mask_sub sub) fun x hx => ⟨List.mem_filter.mpr ⟨h2.inL x hx, ?_⟩, rfl⟩⟩
  simp only [decide_eq_true_eq]
  rintro rfl
  exact no i k v h h1 hx
/-- r = x.pop(k) -/
@[reducible, simp] def qPopW (i j r : Nat) : PS1 := fun ρ F => ∃ b k ds, ρ[i]? = some (some (.wt (some (b, k, ds)))) ∧ ρ[j]? = some (some (.v (.int k))) ∧ F.nx ((ρ.set i (some (.wt none))).set r (some (.v (.lst ds))))
theorem dropK_one (k : Int) (v : V) : dropK [((Sum.inl k : L2.Key), v)] (.inl k) = [] := by simp [dropK]
theorem valV_one (k : Int) (v : V) : valV [((Sum.inl k : L2.Key), v)] (.inl k) = some v := by simp [valV]
instance (priority := high) {i j r : Nat} : SS T (tAsg (tDPop1 (tVar i) (tVar j)) (gName r)) (qPopW i j r) where
  run := fun {c L H H0 σ ρ F D} s e f h o => by
    obtain ⟨b, kk, ds, hz, hj, h⟩ := h
    obtain ⟨a, h1, h2, q⟩ := s.own_w hz
    rcases q with ⟨q, _⟩ | ⟨b', k', ds', xs, q, q1, q2, q3, q4, q5⟩
    · cases q
    cases q
    obtain ⟨v, hv, rv⟩ := s.val j _ hj
    cases rv
    refine ⟨_, h1, a, rfl, .inl ⟨_, .inl q3⟩, _, hv, _, .inl kk, _, q3, rfl, valV_one _ _, ?_⟩
    rw [dropK_one]
    have S1 := s.alt (A := []) (k' := .wt none) (H' := upd H a (.dK [])) hz h1 (fun _ z => nomatch z) (fun _ z => nomatch z) (fun x hx => ?_) (fun x _ hx => upd_ne fun z => hx (by rw [z]; simp [Kn.adr])) ⟨a, rfl, h2, upd_same⟩ (fun x hx => .inr (by simp [Kn.adr] at hx ⊢; exact .inl hx))
    · have S2 := S1.dropL (b := b) fun i' k v g1 g2 => ?_
      · have hm : mask (L ++ c.M) (upd H a (.dK [])) = mask (L ++ c.M) H := mask_chg (List.mem_append_left _ h2)
        have rr : Rp T (mask ((([] ++ L).filter fun x => decide (x ≠ b)) ++ c.M) (upd H a (.dK []))) (.ref b) (.lst ds) := by
          refine .lst (xs := xs) ?_ ?_
          · rw [mask_out, upd_ne q2]
            · exact q4
            · intro z
              rcases List.mem_append.mp z with z | z
              · have := (List.mem_filter.mp z).2
                simp at this
              · exact s.LM b q1 z
          · rw [← hm] at q5
            refine q5.mono (mask_sub fun x hx => ?_)
            rcases List.mem_append.mp hx with hx | hx
            · exact List.mem_append_left _ (List.mem_filter.mp hx).1
            · exact List.mem_append_right _ hx
        exact o.nx _ _ _ _ (S2.setv (i := r) rr) (Stp.chg s e f h2) (fun x hx => f x (List.mem_filter.mp hx).1) h
      · rcases key_set g1 with ⟨rfl, rfl, _⟩ | ⟨ne, g0⟩
        · rw [h1] at g2
          cases g2
          simp [Kn.adr]
          exact q2
        · exact fun z => ne (s.inj i' i _ _ _ _ b g0 hz g2 h1 z (by simp [Kn.adr]))
    · have hx' : x = a ∨ x = b := by simpa [Kn.adr] using hx
      rcases hx' with rfl | rfl
      · exact ⟨_, upd_same, fun _ z => nomatch z⟩
      · exact .lst (xs := xs) (by rw [upd_ne q2]; exact q4)
/-- k not in x -/
@[reducible, simp] def pNotW (i j : Nat) : PB1 := fun ρ P => ∃ z k, ρ[i]? = some (some (.wt z)) ∧ ρ[j]? = some (some (.v (.int k))) ∧ P (match z with | none => true | some y => decide (y.2.1 ≠ k))
instance (priority := high) {i j : Nat} : STt T (tB (tDNotIn (tVar j) (tVar i))) (pNotW i j) where
  run := fun {c L H σ ρ P Q} s h k => by
    obtain ⟨z, kk, hz, hj, h⟩ := h
    obtain ⟨a, h1, h2, q⟩ := s.own_w hz
    obtain ⟨v, hv, rv⟩ := s.val j _ hj
    cases rv
    refine ⟨_, hv, _, h1, ?_⟩
    rcases q with ⟨rfl, q⟩ | ⟨b, k', ds, xs, rfl, q1, q2, q3, q4, q5⟩
    · exact ⟨a, none, rfl, .inl ⟨_, .inl kk, .inl q, rfl, rfl⟩, _, rfl, k _ _ (Stp.refl _ _) h⟩
    · refine ⟨a, valV [((Sum.inl k' : L2.Key), V.ref b)] (.inl kk), rfl, .inl ⟨_, .inl kk, .inl q3, rfl, rfl⟩, _, rfl, ?_⟩
      have e : (!(valV [((Sum.inl k' : L2.Key), V.ref b)] (.inl kk)).isSome) = decide (k' ≠ kk) := by
        by_cases hk : k' = kk
        · subst hk; simp [valV]
        · have : ¬ (Sum.inl k' : L2.Key) = Sum.inl kk := fun z => hk (Sum.inl.inj z)
          simp [valV, this, hk]
      rw [e]
      exact k _ _ (Stp.refl _ _) h
/-- x[k] = [] -/
@[reducible, simp] def qPutW (i j : Nat) : PS1 := fun ρ F => ∃ k, ρ[i]? = some (some (.wt none)) ∧ ρ[j]? = some (some (.v (.int k))) ∧ ∀ b, F.nx (ρ.set i (some (.wt (some (b, k, [])))))
instance (priority := high) {i j : Nat} : SS T (sDPut (tVar i) (tVar j) (tLst tNil)) (qPutW i j) where
  run := fun {c L H H0 σ ρ F D} s e f h o => by
    obtain ⟨kk, hz, hj, h⟩ := h
    refine ⟨by decide, fun b hb => ?_⟩
    obtain ⟨a, h1, h2, q⟩ := s.own_w hz
    rcases q with ⟨_, q⟩ | ⟨b', k', ds', xs, q, _⟩
    · obtain ⟨v, hv, rv⟩ := s.val j _ hj
      cases rv
      have nba : b ≠ a := fun z => by rw [z, q] at hb; cases hb
      have nab : a ≠ b := fun z => nba z.symm
      refine ⟨_, h1, _, hv, a, upd (upd H b (.lst [])) a (.dK [(.inl kk, .ref b)]), rfl, .inl ⟨[], .inl kk, by rw [upd_ne nab]; exact q, rfl, by decide, by simp [putK]⟩, ?_⟩
      have S := s.alt (A := [b]) (k' := .wt (some (b, kk, []))) (H' := upd (upd H b (.lst [])) a (.dK [(.inl kk, .ref b)])) hz h1 (fun x hx => by rw [List.mem_singleton.mp hx]; exact hb) (fun x hx => by rw [List.mem_singleton.mp hx]; exact .lst (by rw [upd_ne nba]; exact upd_same)) (fun x hx => ?_) (fun x hx hx2 => ?_)
        ⟨a, [], rfl, List.mem_cons_of_mem _ h2, List.mem_cons_self, nba, upd_same, by rw [upd_ne nba]; exact upd_same, .nil⟩ (fun x hx => ?_)
      · have e' : Stp c H0 (upd H b (.lst [])) := e.trans (.same (Same.new hb))
        refine o.nx _ _ _ _ S (e'.chgN (f a h2)) (fun x hx => ?_) (h b)
        rcases List.mem_cons.mp hx with rfl | hx
        · exact Stp.new_none s e hb
        · exact f x hx
      · have q : x = a := by simpa [Kn.adr] using hx
        rw [q]
        exact ⟨_, upd_same, fun _ z => nomatch z⟩
      · have n1 : x ≠ a := by simpa [Kn.adr] using hx2
        have n2 : x ≠ b := by simpa using hx
        rw [upd_ne n1, upd_ne n2]
      · have q : x = a ∨ x = b := by simpa [Kn.adr] using hx
        rcases q with rfl | rfl
        · exact .inr (by simp [Kn.adr])
        · exact .inl (by simp)
    · cases q
/-- x[k].append(v) -/
@[reducible, simp] def qAppW (i j l : Nat) : PS1 := fun ρ F => ∃ b k ds d, ρ[i]? = some (some (.wt (some (b, k, ds)))) ∧ ρ[j]? = some (some (.v (.int k))) ∧ ρ[l]? = some (some (.v d)) ∧ ds.length < 1000000 ∧ F.nx (ρ.set i (some (.wt (some (b, k, ds ++ [d])))))
instance (priority := high) {i j l : Nat} : SS T (tDrop (tBM K "list" rAppend (tDGet (tVar i) (tVar j)) (tCons (tVar l) tNil))) (qAppW i j l) where
  run := fun {c L H H0 σ ρ F D} s e f h o => by
    obtain ⟨b, kk, ds, d, hz, hj, hl, hn, h⟩ := h
    obtain ⟨a, h1, h2, q⟩ := s.own_w hz
    rcases q with ⟨q, _⟩ | ⟨b', k', ds', xs, q, q1, q2, q3, q4, q5⟩
    · cases q
    cases q
    obtain ⟨v, hv, rv⟩ := s.val j _ hj
    cases rv
    obtain ⟨u, hu, ru⟩ := s.val l _ hl
    refine ⟨_, h1, _, hv, a, .ref b, rfl, .inl ⟨_, .inl kk, .inl q3, rfl, (valV_one _ _).symm⟩, .inl ⟨rfl, xs, SqL.of q4⟩, u, hu, b, xs, u, rfl, rfl, q4, by rw [q5.length]; exact Nat.lt_of_lt_of_le hn (by decide), ?_⟩
    have hm : mask (L ++ c.M) (upd H b (.lst (xs ++ [u]))) = mask (L ++ c.M) H := mask_chg (List.mem_append_left _ q1)
    have S := s.alt (A := []) (k' := .wt (some (b, kk, ds ++ [d]))) (H' := upd H b (.lst (xs ++ [u]))) hz h1 (fun _ z => nomatch z) (fun _ z => nomatch z) (fun x hx => ?_) (fun x _ hx => upd_ne fun z => hx (by rw [z]; simp [Kn.adr]))
      ⟨a, xs ++ [u], rfl, h2, q1, q2, by rw [upd_ne fun z => q2 z.symm]; exact q3, upd_same, by show RpA T (mask (L ++ c.M) _) _ _; rw [hm]; exact q5.append (.cons ru .nil)⟩ (fun x hx => .inr hx)
    · exact o.nx _ _ _ _ S (Stp.chg s e f q1) f h
    · have hx' : x = a ∨ x = b := by simpa [Kn.adr] using hx
      rcases hx' with rfl | rfl
      · exact ⟨.dK [(.inl kk, .ref b)], by rw [upd_ne fun z => q2 z.symm]; exact q3, fun _ z => nomatch z⟩
      · exact .lst upd_same
end
end
end DL
/-! DG: defs that may ask for a repr: their callers hold no guard -/
namespace DL
open PySem L2 PyProof.Rows
noncomputable section
/-- as FnOk, where no guard is held -/
structure FnG (P : Program) (w : World) (K : PySem.W.Frag) (mg : Str → Option Value) (base : Heap) (k : Nat) (f : Addr) (fd : FuncData) (ps : List Str) (sp : Sp) : Prop where
  len : ∀ vs H Q E, sp vs H Q E → vs.length = ps.length
  run : ∀ (A : Around) (outer : List Env) (s : Shared) (H : Hp) (args : Args) (us : List Value) (vs : List V) (Q : VK) (E : XK), A.guards = some [] → Room k A → Env0 P w K mg base A outer s H → BindsTo s fd args (ps.zip us) → Vals vs us → sp vs H Q E →
    codeAny (model P w) A (.call (.ref f) args) (CR CX0 outer P w H s Q E) s
section
variable {P : Program} {w : World} {K : PySem.W.Frag} {mg : Str → Option Value} {base : Heap} {T : Tx}
theorem fnG_of {k : Nat} {f : Addr} {x qual : Str} {params : Arguments} {body : List Stmt} {scope : Scope} {fd : FuncData} {N ps : List Str} {sp : Sp} (F : FunD K x qual params body scope [] [] f fd) (S : FnScope N ps scope) (len : ∀ vs H Q E, sp vs H Q E → vs.length = ps.length)
    (hbody : ∀ (cdv : Value) (A : Around) (outer : List Env) (s : Shared) (H : Hp) (vs : List V) (Q : VK) (E : XK), A.guards = some [] → Room k (A.deeper (envOfC qual scope s.heap.objs.size f cdv)) → sp vs H Q E →
      ∃ t, PSs (cxOf CX0 P w K mg base N qual scope f cdv A outer s H E) body t ∧ t { nx := fun _ H' => Q .non H', rt := Q } (L2.start N vs) H) : FnG P w K mg base (k + 1) f fd ps sp := by
  obtain ⟨oc, od, dV, kV, doc, pm, an, cdv, ct, osl, rfl, lk, hcd, _, _⟩ := F.ex
  refine ⟨len, fun A outer s H args us vs Q E hG hr e0 hb r hsp => ?_⟩
  have hl := len _ _ _ _ hsp
  have kx : K.In s.heap := e0.mod.kin.keeps fun b o e => (e0.bs b o e).1
  have nl : s.heap.NoLimit := e0.mod.nolimit.keeps fun b o e => (e0.bs b o e).1
  have hkind : ∀ y ∈ ps.zip us, scope.names.lookup y.1 = some .local ∨ (scope.names.lookup y.1 = some .cell ∧ ((cellsFrom (s.heap.objs.size + 1) scope.names []).lookup y.1).isSome = true) := fun ⟨n, v⟩ hy => (S.par n (List.of_mem_zip hy).1).elim .inl fun q => .inr ⟨q, PySem.W.cellsFrom_some _ _ _ (.inl q)⟩
  refine codeAny_call_function hr.depth (kx _ _ lk) rfl S.co S.gen rfl (PySem.W.codeRec_of kx hcd) (hb _ _ _ _ (wpAny_newFunctionEnv_cells S.kind hkind fun env he s1 z => ?_))
  subst he
  refine ⟨nl.keeps z.toInCall.keep, codeAny_func ?_⟩
  obtain ⟨t, ht, hq⟩ := hbody cdv A outer s H vs Q E hG (hr.deeper _) hsp
  have J : Inv (cxOf CX0 P w K mg base N qual scope f cdv A outer s H E) [] (L2.start N vs) H s1 := inv_start S hr.hd e0 hl r z
  refine wpAny_mono (ht.run [] s1 (L2.start N vs) H _ J hq) (fun fl s' hs => ?_) fun e s' hs => hs
  cases fl with
  | ret u => obtain ⟨v, σ', H', J', rv, q⟩ := hs; exact ⟨v, H', J'.os, J'.bare, J'.base, J'.hok, rv, q⟩
  | next => obtain ⟨σ', H', J', q⟩ := hs; exact ⟨.non, H', J'.os, J'.bare, J'.base, J'.hok, rfl, q⟩
  | brk => obtain ⟨_, _, _, q⟩ := hs; exact q.elim
  | cont => obtain ⟨_, _, _, q⟩ := hs; exact q.elim
theorem FnOk.g {k : Nat} {f : Addr} {fd : FuncData} {ps : List Str} {sp : Sp} (F : FnOk P w K mg base CX0 k f fd ps sp) : FnG P w K mg base k f fd ps sp := ⟨F.len, fun A outer s H args us vs Q E _ => F.run A outer s H args us vs Q E⟩
end
section
variable {X : Cx} {x : Str} {p pos : Pos} {e : Expr} {es : List Expr} {t : TA} {k : Nat} {f : Addr} {fd : FuncData} {ps : List Str} {sp : Sp}
structure UseG (P : Program) (w : World) (K : PySem.W.Frag) (mg : Str → Option Value) (base : Heap) (x : Str) (k : Nat) (ps : List Str) (sp : Sp) (f : Addr) (fd : FuncData) : Prop where
  ok : FnG P w K mg base k f fd ps sp
  mg : mg x = some (.ref f)
  kp : PySem.W.keepIn K (.ref f) = true
  b : Binds K fd ps []
theorem pe_useG (U : UseG X.prog X.w X.K X.mg X.base x k ps sp f fd) (hG : X.A.guards = some []) (hr : Room k X.A) (hg : Gl X x) (ha : PA X (e :: es) t) (hdb : (x == ("__debug__" : Str)) = false := by decide)
    (he : starEach (e :: es) X.env = (false, eval e X.env) :: starEach es X.env := by rfl) (hpl : (backTo pos (starEach es X.env)).any (·.1) = false := by rfl) : PE X (.Call (.Name x p) (e :: es) [] pos) (tCall sp [] E0 t) := by
  refine ⟨fun pins s σ H Q I h => wpAny_Call_Name_kw (ld_glob I hg U.mg (PySem.W.callWith_K (h₀ := X.base) I.ok.mod.kin U.kp (thn (ha.run pos pins s σ H _ I h) fun us s1 ⟨vs, H1, J, r, q⟩ => ⟨J.kIn, ?_⟩) he hpl) hdb)⟩
  have q : sp (vs ++ []) H1 Q E0 := q
  rw [List.append_nil] at q
  have hl : us.length = ps.length := by rw [← r.length]; exact U.ok.len _ _ _ _ q
  refine wpAny_call (codeAny_mono (U.ok.run X.A X.stack s1 H1 ⟨us, []⟩ us vs Q E0 hG hr J.env0 (by simpa using U.b s1 us J.kIn (by simpa using hl)) r q) fun r s' hq => ?_)
  cases r with
  | error e => exact (pass0 (X := X) : Passes CX0 X E0) pins σ H1 s1 e s' J hq
  | ok fl =>
    cases fl with
    | ret u => exact J.after hq
    | next => exact hq.elim
    | brk => exact hq.elim
    | cont => exact hq.elim
/-- repr(x) -/
def rRepr (K : PySem.W.Frag) : List V → Hp → VK → Prop := fun vs H Q => (∃ i, vs = [.int i] ∧ i.natAbs.log2 < 1920 ∧ Q (.str (toString i)) H) ∨
  ∃ a d, vs = [.ref a] ∧ Dp K H (.ref a) d ∧ d.showable = true ∧ d.hasDict = false ∧ d.depth ≤ 60 ∧ d.shown.length ≤ sizeLine ∧ Q (.str d.shown) H
theorem c_repr (hG : X.A.guards = some []) (hu : X.A.units + 64 < cLine) : CallR X (.builtin "repr") (rRepr X.K) := by
  intro pins s σ H vs us Q I r h
  rcases h with ⟨i, rfl, hi, q⟩ | ⟨a, d, rfl, hd, h1, h2, h3, h4, q⟩
  · cases r with
    | cons r1 r2 =>
      cases r2
      obtain ⟨t, rfl⟩ := r1
      exact PySem.P.repr_of_int hi ⟨.str _, H, I.tok _, ⟨_, rfl⟩, q⟩
  · rw [Vals.ref1 r]
    obtain ⟨as, rd⟩ := Dp.reads I d (.ref a) (.ref a) hd rfl
    refine repr_of_reads' (h₀ := s.heap) rd h1 (fun z => by rw [h2] at z; cases z) hG (by omega) (fun b o e => e) (fun h' u tk hk => ⟨.str _, H, I.kept (t' := tk) hk, ⟨u, rfl⟩, q⟩) (hsz := h4)
end
section
variable {T : Tx} {K : PySem.W.Frag}
/-- what may be shown -/
structure Shows (d : D) : Prop where
  tup : ∃ es, d = .tup es
  fit : d.fit 50 = true
  sh : d.py.showable = true
  nd : d.py.hasDict = false
  len : d.py.shown.length ≤ 1000000
@[reducible, simp] def qRepr : List D → (D → Prop) → Prop := fun ds P => (∃ i, ds = [.int i] ∧ i.natAbs.log2 < 1920 ∧ P (.str (toString i))) ∨ ∃ d, ds = [d] ∧ Shows d ∧ P (.str d.py.shown)
instance : SC T (rRepr K) qRepr where
  run := fun {c L H σ ρ xs ds P Q} s r h k => by
    rcases h with ⟨i, rfl, hi, h⟩ | ⟨d, rfl, hd, h⟩
    · obtain ⟨v, rfl, rv⟩ := r.one
      cases rv
      exact .inl ⟨i, rfl, hi, k _ _ _ (Stp.refl _ _) (.str _) h⟩
    · obtain ⟨v, rfl, rv⟩ := r.one
      obtain ⟨es, rfl⟩ := hd.tup
      obtain ⟨a, xs, rfl, h1, h2⟩ := rv.tup_inv
      have hl := fit_lay _ _ hd.fit
      exact .inr ⟨a, _, rfl, rv.full.dp hd.fit, hd.sh, hd.nd, by omega, Nat.le_trans hd.len (by decide), k _ _ _ (Stp.refl _ _) (.str _) h⟩
end
end
end DL
/-! DX: __init__, the script, the law's own def, the law's end -/
namespace DL
open PySem L2 PyProof.Rows
noncomputable section
section
variable {T : Tx} {K : PySem.W.Frag} {te : TE} {pe : PE1}
/-! ### the instance that is made -/
theorem putF_zip {f : Str} {y : V} : ∀ {ns : List Str} {vs : List V}, ns.length = vs.length → f ∉ ns → putF f y (ns.zip vs) = (ns ++ [f]).zip (vs ++ [y])
  | [], [], _, _ => by simp [putF]
  | n :: ns, v :: vs, h, hf => by
    simp only [List.mem_cons, not_or] at hf
    have ne : ¬ n = f := fun e => hf.1 e.symm
    simp only [List.zip_cons_cons, List.cons_append, putF]
    rw [if_neg ne, putF_zip (by simpa using h) hf.2]
  | [], _ :: _, h, _ => by simp at h
  | _ :: _, [], h, _ => by simp at h
theorem lookup_zip {H : Hp} {f : Str} : ∀ {ns : List Str} {vs : List V} {ds : List D} {d : D}, RpA T H vs ds → (ns.zip ds).lookup f = some d → ∃ v, (ns.zip vs).lookup f = some v ∧ Rp T H v d
  | [], _, _, _, _, h => by simp at h
  | _ :: _, _, _, _, .nil, h => by simp at h
  | n :: ns, _, _, _, .cons r t, h => by
    simp only [List.zip_cons_cons, List.lookup_cons] at h ⊢
    cases hb : f == n with
    | true => rw [hb] at h; cases h; exact ⟨_, rfl, r⟩
    | false => rw [hb] at h; exact lookup_zip t h
theorem SOk.own_s {c : Cfg} {L : List Addr} {H : Hp} {σ : L2.St} {ρ : En} (s : SOk T c L H σ ρ) {i : Nat} {a C : Addr} {ns : List Str} {ds : List D} (h : ρ[i]? = some (some (.slf a C ns ds))) :
    ∃ dx vs, σ[i]? = some (some (.ref a)) ∧ a ∈ L ∧ H a = some (.ins C dx (ns.zip vs)) ∧ ns.length = ds.length ∧ RpA T (mask (L ++ c.M) H) vs ds := by
  obtain ⟨v, h1, dx, vs, rfl, h2⟩ := s.all i _ h
  exact ⟨dx, vs, h1, h2⟩
/-- self.f = e -/
@[reducible, simp] def qSetF (K : PySem.W.Frag) (i : Nat) (f : Str) (pe : PE1) : PS1 := fun ρ F => pe ρ fun d => ∃ a C ns ds, ρ[i]? = some (some (.slf a C ns ds)) ∧ Cls K C ∧ NoAttr K C f ∧ f ∉ ns ∧ ns.length < 10 ∧ F.nx (ρ.set i (some (.slf a C (ns ++ [f]) (ds ++ [d]))))
instance {i : Nat} {f : Str} [he : SE T te pe] : SS T (sFld K (tVar i) te f) (qSetF K i f pe) where
  run := fun {c L H H0 σ ρ F D} s e fr h o => he.run s h fun v d H' st r h1 => by
    obtain ⟨a, C, ns, ds, hi, c1, c2, nf, hn, h1⟩ := h1
    have S := s.step st
    obtain ⟨dx, vs, g1, g2, g3, g4, g5⟩ := S.own_s hi
    have hl : ns.length = vs.length := by rw [g4, g5.length]
    refine ⟨_, g1, a, C, dx, _, rfl, g3, c1, c2, by rw [List.length_zip]; omega, ?_⟩
    rw [putF_zip hl nf]
    have hm : mask (L ++ c.M) (upd H' a (.ins C dx ((ns ++ [f]).zip (vs ++ [v])))) = mask (L ++ c.M) H' := mask_chg (List.mem_append_left _ g2)
    have S2 := S.alt (A := []) (k' := .slf a C (ns ++ [f]) (ds ++ [d])) (H' := upd H' a (.ins C dx ((ns ++ [f]).zip (vs ++ [v])))) hi g1 (fun _ z => nomatch z) (fun _ z => nomatch z) (fun x hx => by rw [show x = a from by simpa [Kn.adr] using hx]; exact ⟨_, upd_same, fun _ z => nomatch z⟩)
      (fun x _ hx => upd_ne (by simpa [Kn.adr] using hx)) ⟨dx, vs ++ [v], rfl, g2, upd_same, by simp [g4], by show RpA T (mask (L ++ c.M) _) _ _; rw [hm]; exact g5.append (.cons r .nil)⟩ fun x hx => .inr hx
    exact o.nx _ _ _ _ S2 (Stp.chg S (e.trans st) fr g2) fr h1
/-- self.f -/
def tFldS (K : PySem.W.Frag) (i : Nat) (f : Str) : TE := tFld K (tVar i) f
theorem pe_fldS {X : Cx} (i : Nat) {f : Str} {e : Expr} {pos : Pos} (he : PE X e (tVar i)) (hb : attributeBase e f X.env (eval e X.env) = eval e X.env) : PE X (.Attribute e f pos) (tFldS X.K i f) := pe_fld he hb
@[reducible, simp] def pFldS (K : PySem.W.Frag) (i : Nat) (f : Str) : PE1 := fun ρ P => ∃ a C ns ds d, ρ[i]? = some (some (.slf a C ns ds)) ∧ Cls K C ∧ NoAttr K C f ∧ (ns.zip ds).lookup f = some d ∧ P d
instance {i : Nat} {f : Str} : SE T (tFldS K i f) (pFldS K i f) where
  run := fun {c L H σ ρ P Q} s h k => by
    obtain ⟨a, C, ns, ds, d, hi, c1, c2, hl, h⟩ := h
    obtain ⟨dx, vs, g1, g2, g3, g4, g5⟩ := s.own_s hi
    obtain ⟨v, hv, rv⟩ := lookup_zip g5 hl
    exact ⟨_, g1, a, C, dx, _, v, rfl, g3, c1, c2, hv, k v d _ (Stp.refl _ _) rv h⟩
end
section
variable {P : Program} {w : World} {K : PySem.W.Frag} {mg : Str → Option Value} {base : Heap} {T : Tx}
/-- the instance is made -/
def Made (T : Tx) (a C : Addr) (P : D → Prop) (ρ : En) : Prop := (C = T.CW ∧ ∃ k ks vs ar, ρ[0]? = some (some (.slf a C ["pegs", "_costs", "arrows"] [.int k, .dct ks vs, .tup ar])) ∧ P (.web k ar)) ∨
  (C = T.CG ∧ ∃ k ws, ρ[0]? = some (some (.slf a C ["pegs", "webs", "discs"] [.int k, .tup ws, .int (ws.length : Int)])) ∧ P (.game k ws))
theorem okI {x qual : Str} {st : Stmt} {f : Addr} {fd : FuncData} {N ps : List Str} {k : Nat} {C : Addr} {post : List D → (D → Prop) → Prop} (F : FnP K x qual st f fd) (S : FnScope N ps (defScope st)) (len : ∀ ds P, post ds P → ds.length + 1 = ps.length)
    (body : ∀ (cdv : Value) (A : Around) (outer : List Env) (s : Shared) (H : Hp) (E : XK), Room k (A.deeper (envOfC qual (defScope st) s.heap.objs.size f cdv)) →
      ∃ ts, PSs (cxOf CX0 P w K mg base N qual (defScope st) f cdv A outer s H E).nox (defBody st) ts ∧ ∀ a ds P, post ds P → Left T ts (some (.slf a C [] []) :: argsOf ds (N.length - 1)) { nx := Made T a C P, rt := fun _ => False }) : FnOk P w K mg base CX0 (k + 1) f fd ps (spI T C post) := by
  refine F.ok S (fun vs H Q E hs => ?_) (fun cdv A outer s H vs Q E hr hs => ?_)
  · obtain ⟨x, dx, us, S', ds, P', rfl, _, _, _, r, hp, _⟩ := hs
    rw [List.length_cons, r.length]
    exact len ds P' hp
  obtain ⟨ts, hb, hl2⟩ := body cdv A outer s H E hr
  refine ⟨ts, hb.nox, ?_⟩
  obtain ⟨x, dx, us, S', ds, P', rfl, hx, nx, hS, r, hp, hk⟩ := hs
  have hl := r.length
  obtain ⟨q, hq, h2⟩ := hl2 x ds P' hp
  have hS1 : ∀ a ∈ x :: S', NT H a := fun a ha => by
    rcases List.mem_cons.mp ha with rfl | ha
    · exact ⟨_, hx, fun _ z => nomatch z⟩
    · exact hS a ha
  have s1 := sok_start hS1 r (N.length - 1 - us.length)
  unfold argsOf at h2
  rw [← hl] at h2
  have es : L2.start N (V.ref x :: us) = some (V.ref x) :: (us.map some ++ List.replicate (N.length - 1 - us.length) none) := by
    unfold L2.start
    rw [List.map_cons, List.cons_append, List.length_cons]
    have : N.length - (us.length + 1) = N.length - 1 - us.length := by omega
    rw [this]
  have s0 : SOk T ⟨S', none⟩ [x] H (L2.start N (V.ref x :: us)) (some (.slf x C [] []) :: (ds.map (fun d => some (Kn.v d)) ++ List.replicate (N.length - 1 - us.length) none)) := by
    rw [es]
    refine ⟨⟨fun a h => (nomatch h)⟩, by rw [List.length_cons, List.length_cons, s1.len], fun i k hi => ?_, fun i j k k' v v' b hi hj _ _ q q' => ?_, fun b hb => hS1 b (by simpa using hb), fun b hb => by rw [List.mem_singleton.mp hb]; exact nx, fun b hb => (nomatch hb)⟩
    · cases i with
      | zero =>
        have e : k = .slf x C [] [] := by simpa using hi.symm
        subst e
        exact ⟨_, rfl, dx, [], rfl, List.mem_singleton.mpr rfl, hx, rfl, .nil⟩
      | succ i =>
        have hi' : (ds.map (fun d => some (Kn.v d)) ++ List.replicate (N.length - 1 - us.length) none)[i]? = some (some k) := by simpa using hi
        obtain ⟨d, rfl⟩ := slots_v ds _ hi'
        obtain ⟨v, h1, h2⟩ := s1.val i d hi'
        exact ⟨v, by simpa using h1, h2⟩
    · have key : ∀ {i : Nat} {k : Kn} {v : V}, (some (Kn.slf x C [] []) :: (ds.map (fun d => some (Kn.v d)) ++ List.replicate (N.length - 1 - us.length) none))[i]? = some (some k) → b ∈ k.adr v → i = 0 := fun {i k v} hi q => by
        cases i with
        | zero => rfl
        | succ i =>
          have hi' : (ds.map (fun d => some (Kn.v d)) ++ List.replicate (N.length - 1 - us.length) none)[i]? = some (some k) := by simpa using hi
          obtain ⟨d, rfl⟩ := slots_v ds _ hi'
          simp [Kn.adr] at q
      rw [key hi q, key hj q']
  have er : ∀ {H' : Hp}, Stp ⟨S', none⟩ (mask [x] H) H' → ∀ b o, b ≠ x → H b = some o → H' b = some o := fun e b o hb q => e.keep b o (fun a ha => nomatch ha) (by rw [mask_out (by simpa using hb)]; exact q)
  refine hq.run (H0 := mask [x] H) s0 (.same (mask_le _ _)) (fun a ha => mask_in ha) h2 ⟨fun L' H' σ' ρ' s' e' f' h' => ?_, fun v d H' e' r' h' => h'.elim, fun _ _ _ _ _ _ _ h' => h'.elim, fun _ _ _ _ _ _ _ h' => h'.elim⟩
  have sub : ∀ b ∈ S', b ∈ L' ++ S' := fun b hb => List.mem_append_right _ hb
  rcases h' with ⟨rfl, kk, ks, cs, ar, h0, hP⟩ | ⟨rfl, kk, ws, h0, hP⟩
  · obtain ⟨dx', vs, g1, g2, g3, g4, g5⟩ := s'.own_s h0
    have g6 := g5.mono (mask_sub (H := H') sub)
    cases g6 with
    | cons r1 r2 => cases r2 with
      | cons r3 r4 => cases r4 with
        | cons r5 r6 =>
          cases r6
          cases r1
          obtain ⟨b, es', rfl, _⟩ := r3.dct_inv
          obtain ⟨t, xs, rfl, h3, h4⟩ := r5.tup_inv
          exact hk _ H' (er e') (.web (dx := dx') (c := b) (t := t) (xs := xs) (by rw [mask_out (s'.LM x g2)]; exact g3) h3 h4) hP
  · obtain ⟨dx', vs, g1, g2, g3, g4, g5⟩ := s'.own_s h0
    have g6 := g5.mono (mask_sub (H := H') sub)
    cases g6 with
    | cons r1 r2 => cases r2 with
      | cons r3 r4 => cases r4 with
        | cons r5 r6 =>
          cases r6
          cases r1
          cases r5
          obtain ⟨t, xs, rfl, h3, h4⟩ := r3.tup_inv
          exact hk _ H' (er e') (.game (dx := dx') (t := t) (xs := xs) (by rw [mask_out (s'.LM x g2), h4.length]; exact g3) h3 h4) hP
/-! ### the script -/
def rLenS (K : PySem.W.Frag) : List V → Hp → VK → Prop := rLen1 K
theorem c_lenS {X : Cx} : CallR X (.builtin "len") (rLenS X.K) := call_len_seq
end
section
variable {T : Tx} {K : PySem.W.Frag} {te : TE} {pe : PE1}
@[reducible, simp] def pLenSc (K : PySem.W.Frag) (i : Nat) : PE1 := fun ρ P => ∃ ns : List Int, ρ[i]? = some (some (Kn.scr K ns)) ∧ P (.int (ns.length : Int))
instance (priority := high) {i : Nat} : SE T (tCB (rLenS K) (tCons (tVar i) tNil)) (pLenSc K i) where
  run := fun {c L H σ ρ P Q} s h k => by
    obtain ⟨ns, hi, h⟩ := h
    obtain ⟨v, h1, a, rfl, h2⟩ := s.all i _ hi
    exact ⟨_, h1, a, _, rfl, .inl (SqL.mono (mask_le _ _) h2), k _ _ _ (Stp.refl _ _) (.int _) (by rw [List.length_map]; exact h)⟩
def rIxSc (K : PySem.W.Frag) : R2 := rIx K
theorem ix_scr {X : Cx} : IxR X (rIxSc X.K) := ix_seq
@[reducible, simp] def pIxSc (K : PySem.W.Frag) (i : Nat) (pe : PE1) : PE1 := fun ρ P => ∃ ns : List Int, ρ[i]? = some (some (Kn.scr K ns)) ∧ pe ρ fun d => ∃ (n : Nat) (z : Int), d = .int n ∧ ns[n]? = some z ∧ P (.int z)
instance (priority := high) {i : Nat} [he : SE T te pe] : SE T (tOp (rIxSc K) (tVar i) te) (pIxSc K i pe) where
  run := fun {c L H σ ρ P Q} s h k => by
    obtain ⟨ns, hi, h⟩ := h
    obtain ⟨v, h1, a, rfl, h2⟩ := s.all i _ hi
    refine ⟨_, h1, he.run s h fun u d H1 s1 r1 q1 => ?_⟩
    obtain ⟨n, z, rfl, hz, q⟩ := q1
    cases r1
    have h3 : SqL K H1 a (ns.map V.int) := SqL.mono (mask_le _ _) (SqL.mono (s1.mask s.ok) h2)
    exact .inl ⟨a, _, n, .int z, rfl, rfl, h3, atI_nat (by rw [List.getElem?_map, hz]; rfl), k _ _ _ s1 (.int _) q⟩
end
section
variable {P : Program} {w : World} {K : PySem.W.Frag} {mg : Str → Option Value} {base : Heap} {T : Tx}
/-- what a def of the script promises -/
def spS (T : Tx) (K : PySem.W.Frag) (post : List Int → (D → Prop) → Prop) : Sp := fun vs H Q _ => ∃ (l : Addr) (ns : List Int) (P : D → Prop), vs = [.ref l] ∧ SqL K H l (ns.map V.int) ∧ post ns P ∧ ∀ v d H', Same H H' → Rp T H' v d → P d → Q v H'
theorem okS {x qual : Str} {st : Stmt} {f : Addr} {fd : FuncData} {N ps : List Str} {k : Nat} {post : List Int → (D → Prop) → Prop} (F : FnP K x qual st f fd) (S : FnScope N ps (defScope st)) (len : ps.length = 1)
    (body : ∀ (cdv : Value) (A : Around) (outer : List Env) (s : Shared) (H : Hp) (E : XK), Room k (A.deeper (envOfC qual (defScope st) s.heap.objs.size f cdv)) →
      ∃ ts, PSs (cxOf CX0 P w K mg base N qual (defScope st) f cdv A outer s H E).nox (defBody st) ts ∧ ∀ ns P, post ns P → Left T ts (some (.scr K ns) :: List.replicate (N.length - 1) none) { nx := fun _ => P .non, rt := P }) : FnOk P w K mg base CX0 (k + 1) f fd ps (spS T K post) := by
  refine F.ok S (fun vs H Q E hs => ?_) (fun cdv A outer s H vs Q E hr hs => ?_)
  · obtain ⟨l, ns, P', rfl, _⟩ := hs
    rw [len]
    rfl
  obtain ⟨ts, hb, hl2⟩ := body cdv A outer s H E hr
  refine ⟨ts, hb.nox, ?_⟩
  obtain ⟨l, ns, P', rfl, hl, hp, hk⟩ := hs
  obtain ⟨q, hq, h2⟩ := hl2 ns P' hp
  have s0 : SOk T ⟨[], none⟩ [] H (L2.start N [V.ref l]) (some (.scr K ns) :: List.replicate (N.length - 1) none) := by
    refine ⟨⟨fun a h => (nomatch h)⟩, by simp [L2.start], fun i k hi => ?_, fun i j k k' v v' b hi _ _ _ q _ => ?_, fun b hb => (nomatch hb), fun b hb => (nomatch hb), fun b hb => (nomatch hb)⟩
    · cases i with
      | zero =>
        have e : k = .scr K ns := by simpa using hi.symm
        subst e
        exact ⟨.ref l, rfl, l, rfl, SqL.mono (fun b o h => by rw [mask_out (by simp)]; exact h) hl⟩
      | succ i => simp [List.getElem?_replicate] at hi
    · cases i with
      | zero =>
        have e : k = .scr K ns := by simpa using hi.symm
        subst e
        simp [Kn.adr] at q
      | succ i => simp [List.getElem?_replicate] at hi
  have er : ∀ {H' : Hp}, Stp ⟨[], none⟩ H H' → Same H H' := fun e b o q => e.keep b o (fun a ha => nomatch ha) q
  exact hq.run (H0 := H) s0 (Stp.refl _ _) (fun a ha => nomatch ha) h2 ⟨fun L' H' σ' ρ' s' e' f' h' => hk _ _ _ (er e') .non h', fun v d H' e' r' h' => hk v d H' (er e') r'.full h', fun _ _ _ _ _ _ _ h' => h'.elim, fun _ _ _ _ _ _ _ h' => h'.elim⟩
/-- draws, as a datum -/
def isDr (d : D) : Prop := ∃ ns : List Int, d = .lst [.int 0, .lst (ns.map .int)]
theorem dr_of {H : Hp} {v : V} {d : D} (r : Rp T H v d) (h : isDr d) : ∃ a : Addr × Addr, v = .ref a.1 ∧ DrAt H a := by
  obtain ⟨ns, rfl⟩ := h
  cases r with
  | @lst a xs _ h1 h2 =>
    cases h2 with
    | cons r1 r2 => cases r2 with
      | cons r3 r4 =>
        cases r4
        cases r1
        cases r3 with
        | @lst b ys _ h3 h4 =>
          have e := h4.ints_inv
          subst e
          refine ⟨(a, b), rfl, 0, ns, h1, fun z => ?_, h3, Nat.zero_le _⟩
          have z : b = a := z
          subst z
          rw [h1] at h3
          injection h3 with h3
          injection h3 with h3
          cases ns with
          | nil => cases h3
          | cons n ns =>
            cases ns with
            | nil => cases h3
            | cons m ns => cases h3
/-- the law's own promise -/
def spLaw (K : PySem.W.Frag) : Sp := fun vs H Q _ => ∃ (l : Addr) (ns : List Int), vs = [.ref l] ∧ SqL K H l (ns.map V.int) ∧ ns.length ≤ 63 ∧ ∀ H', Q (.bl true) H'
theorem okLaw {x qual : Str} {st : Stmt} {f : Addr} {fd : FuncData} {N ps : List Str} {k : Nat} {post : List Int → (D → Prop) → Prop} (F : FnP K x qual st f fd) (S : FnScope N ps (defScope st)) (len : ps.length = 1) (hN : 2 ≤ N.length) (hpost : ∀ ns, ns.length ≤ 63 → post ns isDr)
    (body : ∀ (cdv : Value) (A : Around) (outer : List Env) (s : Shared) (H : Hp) (E : XK), A.guards = some [] → Room k (A.deeper (envOfC qual (defScope st) s.heap.objs.size f cdv)) →
      ∃ ts, PSs (cxOf CX0 P w K mg base N qual (defScope st) f cdv A outer s H E).nox (defBody st) (tSeq (tAsg (tCall (spS T K post) [] E0 (tCons (tVar 0) tNil)) (gName 1)) ts) ∧ Left T ts (none :: some .dr :: List.replicate (N.length - 2) none) { nx := fun _ => False, rt := fun d => d = .bl true }) : FnG P w K mg base (k + 1) f fd ps (spLaw K) := by
  refine fnG_of F S (fun vs H Q E hs => ?_) (fun cdv A outer s H vs Q E hG hr hs => ?_)
  · obtain ⟨l, ns, rfl, _⟩ := hs
    rw [len]
    rfl
  obtain ⟨ts, hb, q, hq, h2⟩ := body cdv A outer s H E hG hr
  refine ⟨_, hb.nox, ?_⟩
  obtain ⟨l, ns, rfl, hl, hn, hk⟩ := hs
  refine ⟨.ref l, rfl, ?_⟩
  show spS T K post [V.ref l] H _ E0
  refine ⟨l, ns, isDr, rfl, hl, hpost ns hn, fun v d H' sm rv hd => ?_⟩
  obtain ⟨a, rfl, hdr⟩ := dr_of rv hd
  have s0 : SOk T ⟨[a.1, a.2], some a⟩ [] H' ((L2.start N [V.ref l]).set 1 (some (.ref a.1))) (none :: some .dr :: List.replicate (N.length - 2) none) := by
    have e1 : (L2.start N [V.ref l]).set 1 (some (V.ref a.1)) = some (.ref l) :: some (.ref a.1) :: List.replicate (N.length - 2) none := by
      unfold L2.start
      obtain ⟨m, hm⟩ : ∃ m, N.length = m + 2 := ⟨N.length - 2, by omega⟩
      rw [hm]
      simp [List.replicate_succ]
    rw [e1]
    refine ⟨⟨fun b hb => by cases hb; exact ⟨by simp, by simp⟩⟩, by simp, fun i k hi => ?_, fun i j k k' v v' b hi _ _ _ q _ => ?_, fun b hb => ?_, fun b hb => (nomatch hb), fun b hb => by cases hb; exact hdr⟩
    · cases i with
      | zero => simp at hi
      | succ i =>
        cases i with
        | zero =>
          have e : k = .dr := by simpa using hi.symm
          subst e
          exact ⟨_, rfl, a, rfl, rfl⟩
        | succ i => simp [List.getElem?_replicate] at hi
    · cases i with
      | zero => simp at hi
      | succ i =>
        cases i with
        | zero =>
          have e : k = .dr := by simpa using hi.symm
          subst e
          simp [Kn.adr] at q
        | succ i => simp [List.getElem?_replicate] at hi
    · obtain ⟨p, ns', q1, _, q2, _⟩ := hdr
      have z : b = a.1 ∨ b = a.2 := by simpa using hb
      rcases z with rfl | rfl
      · exact .lst q1
      · exact .lst q2
  exact hq.run (H0 := H') s0 (Stp.refl _ _) (fun a ha => nomatch ha) h2 ⟨fun L' H' σ' ρ' s' e' f' h' => h'.elim, fun v d H' e' r' h' => by subst h'; cases r'; exact hk H', fun _ _ _ _ _ _ _ h' => h'.elim, fun _ _ _ _ _ _ _ h' => h'.elim⟩
/-- as okD, where no guard is held -/
theorem okDG {x qual : Str} {st : Stmt} {f : Addr} {fd : FuncData} {N ps : List Str} {k : Nat} {post : List D → (D → Prop) → Prop} (F : FnP K x qual st f fd) (S : FnScope N ps (defScope st)) (len : ∀ ds P, post ds P → ds.length = ps.length)
    (body : ∀ (cdv : Value) (A : Around) (outer : List Env) (s : Shared) (H : Hp) (E : XK), A.guards = some [] → Room k (A.deeper (envOfC qual (defScope st) s.heap.objs.size f cdv)) →
      ∃ ts, PSs (cxOf CX0 P w K mg base N qual (defScope st) f cdv A outer s H E).nox (defBody st) ts ∧ ∀ ds P, post ds P → Left T ts (argsOf ds N.length) { nx := fun _ => P .non, rt := P }) : FnG P w K mg base (k + 1) f fd ps (spD T post) := by
  refine fnG_of F S (fun vs H Q E hs => ?_) (fun cdv A outer s H vs Q E hG hr hs => ?_)
  · obtain ⟨S', ds, P', _, r, hp, _⟩ := hs
    rw [r.length]
    exact len ds P' hp
  · obtain ⟨ts, hb, hl2⟩ := body cdv A outer s H E hG hr
    refine ⟨ts, hb.nox, ?_⟩
    obtain ⟨S', ds, P', hS, r, hp, hk⟩ := hs
    have hl := r.length
    have s0 := sok_start hS r (N.length - vs.length)
    obtain ⟨q, hq, h2⟩ := hl2 ds P' hp
    unfold argsOf at h2
    rw [← hl] at h2
    have er : ∀ {H' : Hp}, Stp ⟨S', none⟩ H H' → Same H H' := fun e b o q => e.keep b o (fun a ha => nomatch ha) q
    exact hq.run (H0 := H) s0 (Stp.refl _ _) (fun a ha => nomatch ha) h2 ⟨fun L' H' σ' ρ' s' e' f' h' => hk _ _ _ (er e') .non h', fun v d H' e' r' h' => hk v d H' (er e') r' h', fun _ _ _ _ _ _ _ h' => h'.elim, fun _ _ _ _ _ _ _ h' => h'.elim⟩
end
end
end DL
/-! DX2: a def with draws where no guard is held; the law's end -/
namespace DL
open PySem L2 PyProof.Rows
noncomputable section
section
variable {P : Program} {w : World} {K : PySem.W.Frag} {mg : Str → Option Value} {base : Heap} {T : Tx}
theorem okRG {x qual : Str} {st : Stmt} {f : Addr} {fd : FuncData} {N ps : List Str} {k : Nat} {post : List D → (D → Prop) → Prop} (F : FnP K x qual st f fd) (S : FnScope N ps (defScope st)) (len : ∀ ds P, post ds P → ds.length + 1 = ps.length)
    (body : ∀ (cdv : Value) (A : Around) (outer : List Env) (s : Shared) (H : Hp) (E : XK), A.guards = some [] → Room k (A.deeper (envOfC qual (defScope st) s.heap.objs.size f cdv)) →
      ∃ ts, PSs (cxOf CX0 P w K mg base N qual (defScope st) f cdv A outer s H E).nox (defBody st) ts ∧ ∀ ds P, post ds P → Left T ts (some .dr :: argsOf ds (N.length - 1)) { nx := fun _ => P .non, rt := P }) : FnG P w K mg base (k + 1) f fd ps (spR T post) := by
  refine fnG_of F S (fun vs H Q E hs => ?_) (fun cdv A outer s H vs Q E hG hr hs => ?_)
  · obtain ⟨a, us, S', ds, P', rfl, _, _, _, _, r, hp, _⟩ := hs
    rw [List.length_cons, r.length]
    exact len ds P' hp
  obtain ⟨ts, hb, hl2⟩ := body cdv A outer s H E hG hr
  refine ⟨ts, hb.nox, ?_⟩
  obtain ⟨a, us, S', ds, P', rfl, hA, hA2, hS, dr, r, hp, hk⟩ := hs
  have hl := r.length
  obtain ⟨q, hq, h2⟩ := hl2 ds P' hp
  have s1 := sok_start hS r (N.length - 1 - us.length)
  unfold argsOf at h2
  rw [← hl] at h2
  have es : L2.start N (V.ref a.1 :: us) = some (V.ref a.1) :: (us.map some ++ List.replicate (N.length - 1 - us.length) none) := by
    unfold L2.start
    rw [List.map_cons, List.cons_append, List.length_cons]
    have : N.length - (us.length + 1) = N.length - 1 - us.length := by omega
    rw [this]
  have s0 : SOk T ⟨S', some a⟩ [] H (L2.start N (V.ref a.1 :: us)) (some .dr :: (ds.map (fun d => some (Kn.v d)) ++ List.replicate (N.length - 1 - us.length) none)) := by
    rw [es]
    refine ⟨⟨fun b hb => ?_⟩, by rw [List.length_cons, List.length_cons, s1.len], fun i k hi => ?_, fun i j k k' v v' b hi _ _ _ q _ => ?_, fun b hb => hS b (by simpa using hb), fun b hb => (nomatch hb), fun b hb => ?_⟩
    · cases hb; exact ⟨hA, hA2⟩
    · cases i with
      | zero =>
        have e : k = .dr := by simpa using hi.symm
        subst e
        exact ⟨_, rfl, a, rfl, rfl⟩
      | succ i =>
        have hi' : (ds.map (fun d => some (Kn.v d)) ++ List.replicate (N.length - 1 - us.length) none)[i]? = some (some k) := by simpa using hi
        obtain ⟨d, rfl⟩ := slots_v ds _ hi'
        obtain ⟨v, h1, h2⟩ := s1.val i d hi'
        exact ⟨v, by simpa using h1, h2⟩
    · cases i with
      | zero =>
        have e : k = .dr := by simpa using hi.symm
        subst e
        simp [Kn.adr] at q
      | succ i =>
        have hi' : (ds.map (fun d => some (Kn.v d)) ++ List.replicate (N.length - 1 - us.length) none)[i]? = some (some k) := by simpa using hi
        obtain ⟨d, rfl⟩ := slots_v ds _ hi'
        simp [Kn.adr] at q
    · cases hb; exact dr
  have er : ∀ {H' : Hp}, Stp ⟨S', some a⟩ H H' → (∀ b o, b ≠ a.1 → H b = some o → H' b = some o) ∧ DrAt H' a := fun e => ⟨fun b o hb q => e.keep b o (fun z hz => by cases hz; exact fun y => hb y.symm) q, e.dr a rfl dr⟩
  exact hq.run (H0 := H) s0 (Stp.refl _ _) (fun a ha => nomatch ha) h2 ⟨fun L' H' σ' ρ' s' e' f' h' => hk _ _ _ (er e').1 (er e').2 .non h', fun v d H' e' r' h' => hk v d H' (er e').1 (er e').2 r' h', fun _ _ _ _ _ _ _ h' => h'.elim, fun _ _ _ _ _ _ _ h' => h'.elim⟩
end
/-- the law is called at the top -/
theorem law_top {P : Program} {w : World} {K : PySem.W.Frag} {mg mb : Str → Option Value} {k : Nat} {fa a : Addr} {fd : FuncData} {x : Str} {s : Shared} {vs : List Value} {ns : List Int} (kx : K.In s.heap) (hns : s.heap.Ns mainGlobals mg) (hb : s.heap.Ns builtinsNs mb)
    (hbb : ∀ x : Str, x ≠ "__name__" → mb x = bootBuiltins x) (lim : s.heap.NoLimit) (hg : s.gens = #[]) (ha : s.heap.get? a = some { cls := .type "list", data := .seq vs.toArray }) (hi : IntsAre vs ns) (h63 : ns.length ≤ 63) (hr : Room k callerA)
    (F : ∀ base : Heap, K.In base → base.Ns mainGlobals mg → FnG P w K mg base k fa fd [x] (spLaw K)) (hbind : ∀ (s : Shared) (u : Value), BindsTo s fd ⟨[u], []⟩ [(x, u)]) :
    codeAny (model P w) callerA (.call (.ref fa) ⟨[.ref a], []⟩) (fun r s' => r = .ok (.ret (.bool true)) ∧ OldK s.heap s'.heap ∧ s'.os = s.os ∧ AllBare s'.gens) s := by
  have rv := vals_ints hi
  have lv := hi.length
  have hl : ns.length ≤ sizeLine := Nat.le_trans h63 (by decide)
  have go : ∀ H : Hp, Only H → SqL K H a (ns.map V.int) → HOk P w H s.heap → (∀ b, H b ≠ none → b = a) → (H a ≠ none → K.lookup a = none) →
      codeAny (model P w) callerA (.call (.ref fa) ⟨[.ref a], []⟩) (fun r s' => r = .ok (.ret (.bool true)) ∧ OldK s.heap s'.heap ∧ s'.os = s.os ∧ AllBare s'.gens) s := fun H hO hS hok hA hK => by
    have isA : ∀ {b : Addr}, H b ≠ none → ∀ {o : Obj}, s.heap.get? b = some o → ∃ n, o.data = .seq vs.toArray n := fun {b} hb {o} e => by
      rw [hA b hb, ha] at e
      cases e
      exact ⟨_, rfl⟩
    have out : ∀ {b : Addr} {o : Obj} {es : Array DictEntry} {ep : Nat}, s.heap.get? b = some o → o.data = .dict es ep → (hidT s.heap H).get? b = some o := fun {b o es ep} e d => hidT_get e (Classical.byContradiction fun z => by
      obtain ⟨n, q⟩ := isA z e
      rw [d] at q
      cases q)
    have nsK : ∀ {b : Addr} {m : Str → Option Value}, s.heap.Ns b m → (hidT s.heap H).Ns b m := fun ⟨o, es, ep, e, d, r⟩ => ⟨o, es, ep, out e d, d, r⟩
    have kb : K.In (hidT s.heap H) := fun b o e => hidT_get (kx b o e) (Classical.byContradiction fun z => by
      have e1 := hA b z
      subst e1
      rw [hK z] at e
      cases e)
    have md : Mod K mg (hidT s.heap H) := ⟨kb, nsK hns, ⟨mb, nsK hb, hbb⟩, let ⟨mc, h1, h2⟩ := lim; ⟨mc, nsK h1, h2⟩⟩
    have e0 : Env0 P w K mg (hidT s.heap H) callerA [] s H := ⟨rfl, md, fun b o e => of_hidT e, Nat.le_of_eq (hidT_size _ _), trivial, fun b hb => absurd (show b ∈ ([] : List Addr) from hb) (by simp), hok, .of_eq hg⟩
    refine codeAny_mono ((F _ kb (nsK hns)).run callerA [] s H ⟨[.ref a], []⟩ [.ref a] [.ref a] (fun v _ => v = .bl true) (fun _ _ _ => False) rfl hr e0 (hbind s (.ref a)) (.cons rfl .nil) ⟨a, ns, rfl, hS, h63, fun _ => rfl⟩) fun r s' h => ?_
    cases r with
    | error e => exact h.elim
    | ok fl =>
      cases fl with
      | next => exact h.elim
      | brk => exact h.elim
      | cont => exact h.elim
      | ret u =>
        obtain ⟨v, H', os, bare, un, hok', r', q⟩ := h
        have q' : v = .bl true := q
        subst q'
        obtain rfl : u = Value.bool true := r'
        refine ⟨rfl, OldK.of_keep fun b o e => ?_, os, bare⟩
        by_cases z : H b = none
        · exact un.keep b o e z (fun y => absurd (show b ∈ ([] : List Addr) from y) (by simp)) (by simp)
        · obtain ⟨ob, xs, y⟩ := (hO b).resolve_left z
          have e1 := (hok b _ y).1
          have e2 := (hok' b _ (un.frzs b ob _ y)).1
          rw [e] at e1
          cases e1
          exact e2
  cases hk : K.lookup a with
  | some o =>
    have e := kx a o hk
    rw [ha] at e
    cases e
    exact go (fun _ => none) (fun _ => .inl rfl) (.inr ⟨_, vs.toArray, _, hk, rfl, rfl, rfl, by rw [List.size_toArray, lv]; exact hl, by simpa using rv⟩) (fun b u z => by cases (show (none : Option HO) = some u from z)) (fun b z => absurd rfl z) fun z => absurd rfl z
  | none =>
    let o : Obj := { cls := .type "list", data := .seq vs.toArray }
    refine go (fun b => if b = a then some (.frz o (.lst (ns.map V.int))) else none) (fun b => ?_) (.inl (.inr ⟨o, if_pos rfl⟩)) (fun b u z => ?_) (fun b z => ?_) fun _ => hk
    · exact (Classical.em (b = a)).elim (fun h => .inr ⟨_, _, if_pos h⟩) fun h => .inl (if_neg h)
    · rcases Classical.em (b = a) with h | h
      · have y := (if_pos h).symm.trans z
        cases y
        subst h
        exact ⟨ha, by rw [List.length_map]; exact hl, vs, _, rv, ha⟩
      · cases (if_neg h).symm.trans z
    · exact Classical.byContradiction fun h => absurd (if_neg h) z
theorem walk_ofG {l : PySem.W.OpenLaw} {n k : Nat} {q : Program} {loose : List Str} {XP : (Str → Option Value) → Heap → Prop} {YP : World → Heap → Prop} {d : DefRec} {x : Str} (hn : l.most = some n) (hn2 : n ≤ 63) (hdf : d.params.defaults = []) (hr : Room k callerA)
    (F : ∀ (w : World) (mg : Str → Option Value) (fa : Addr) (h : Heap), YP w h → h.Ns mainGlobals mg → mg d.name = some (.ref fa) →
      ∃ (K : PySem.W.Frag) (fd : FuncData), K.In h ∧ (∀ (s : Shared) (u : Value), BindsTo s fd ⟨[u], []⟩ [(x, u)]) ∧ ∀ base : Heap, K.In base → base.Ns mainGlobals mg → FnG l.prog w K mg base k fa fd [x] (spLaw K)) :
    PySem.W.WalkO q loose XP YP l.row.toRowW d [] (fun f vs => PySem.call f vs) := by
  refine Att.attach_call hn hdf fun w s₀ s₁ mg mb fa o pm cd doc a vs ns G Y ho hd hcd hmg hobj hints hlen hg => ?_
  obtain ⟨K, fd, kx, hb, hF⟩ := F w mg fa _ Y G.T.g hmg
  exact law_top kx G.T.g G.T.b G.T.builtins G.T.nolimit hg hobj hints (Nat.le_trans hlen hn2) hr hF hb
end
end DL
/-! DK: the rules with the kit's part by its name -/
namespace DL
open PySem L2 PyProof.Rows
noncomputable section
section
variable {X : Cx} {K : PySem.W.Frag} {T : Tx}
theorem o_eqK (h : X.K = K) (hu : X.A.units + 64 < cLine) : OpR X (compareOp .Eq) (rEqA K) := by subst h; exact o_eq hu
theorem o_neK (h : X.K = K) (hu : X.A.units + 64 < cLine) : OpR X (compareOp .NotEq) (rNeA K) := by subst h; exact o_ne hu
theorem o_inK (h : X.K = K) (hu : X.A.units + 65 < cLine) : OpR X (compareOp .In) (rInA K false) := by subst h; exact o_in hu
theorem o_notInK (h : X.K = K) (hu : X.A.units + 65 < cLine) : OpR X (compareOp .NotIn) (rInA K true) := by subst h; exact o_notIn hu
theorem o_plusK (h : X.K = K) : OpR X (binaryOp .Add) (rPlus K) := by subst h; exact o_plus
theorem sl_anyK (h : X.K = K) : SlR X (rSlE K) := by subst h; exact sl_any
theorem ix_seqK (h : X.K = K) : IxR X (rIx K) := by subst h; exact ix_seq
theorem c_lenK2 (h : X.K = K) : CallR X (.builtin "len") (rLen1 K) := by subst h; exact c_len
theorem c_list2 (h : X.K = K) : CallR X (.type "list") (rList1 K) := by subst h; exact c_list
theorem c_tuple2 (h : X.K = K) : CallR X (.type "tuple") (rTuple1 K) := by subst h; exact c_tuple
theorem c_all2 (h : X.K = K) (hc : X.calm = true) : CallR X (.builtin "all") (rAll1 K) := by subst h; exact c_all hc
theorem isi2 (h : X.K = K) : CallR X (.builtin "isinstance") (rIsi K) := by subst h; exact call_isi
theorem isiT2 (h : X.K = K) : CallR X (.builtin "isinstance") (rIsiT K) := by subst h; exact call_isiT
theorem c_sort2 (h : X.K = K) (hT : X.prog = T.prog ∧ X.w = T.w) (hc : X.calm = true) (hu : X.A.units + 65 < cLine) : CallR X (.builtin "sorted") (rSortA T K) := by subst h; exact c_sortA hT hc hu
theorem c_repr2 (h : X.K = K) (hG : X.A.guards = some []) (hu : X.A.units + 64 < cLine) : CallR X (.builtin "repr") (rRepr K) := by subst h; exact c_repr hG hu
theorem pe_fldK {e : Expr} {ta : TE} {f : Str} {pos : Pos} (h : X.K = K) (he : PE X e ta) (hb : attributeBase e f X.env (eval e X.env) = eval e X.env) : PE X (.Attribute e f pos) (tFld K ta f) := by subst h; exact pe_fld he hb
theorem pe_fldSK (i : Nat) {f : Str} {e : Expr} {pos : Pos} (h : X.K = K) (he : PE X e (tVar i)) (hb : attributeBase e f X.env (eval e X.env) = eval e X.env) : PE X (.Attribute e f pos) (tFldS K i f) := by subst h; exact pe_fldS i he hb
theorem pi_seqK {tg l : Expr} {tl : TE} (h : X.K = K) (hl : PE X l tl) : PI X tg l (iSeq K tl) := by subst h; exact pi_seq hl
theorem pg_tupK {es : List Expr} {k : Nat} {pos : Pos} {t : TGs} {n : Nat} (h : X.K = K) (hc : X.calm = true) (hs : PGs X es t) (hn : (assignEach es X.env).length = n := by rfl) (hst : (assignEach es X.env).findIdx? (·.1) = none := by rfl) : PG X (.Tuple es k pos) (gTup K n t) := by subst h; exact pg_tup hc hs hn hst
theorem c_sortS2 (hT : X.prog = T.prog ∧ X.w = T.w) (hc : X.calm = true) (hu : X.A.units + 65 < cLine) : CallR X (.builtin "sorted") (rSortS T.prog T.w) := by
  rw [← hT.1, ← hT.2]
  exact c_sortS hc hu
theorem pe_sc2K {elt tg iter tg1 iter1 : Expr} {scope : Scope} {own : List (Str × Nat)} {vs1 : List Nat} {pos : Pos} {wi wi1 : TI} {g g1 : TG} {te : TE} (h : X.K = K) (hT : X.prog = T.prog ∧ X.w = T.w) (hc : X.calm = true) (hu : X.A.units + 64 < cLine) (hN : X.N.Nodup) (hi : PI X tg iter wi) (ok : BlkOk X.N X.env.scope scope own) (hv : ∀ i ∈ vs1, i ∈ own.map (·.2))
    (hg : ∀ (s : Shared) (H : Hp) (C : Addr) (cl : List (Str × Addr)) (fp : List Addr), PG (X.blk s H scope (compEnvC scope cl C X.env) fp) tg g)
    (hi1 : ∀ (s : Shared) (H : Hp) (C : Addr) (cl : List (Str × Addr)) (fp : List Addr), PI (X.blk s H scope (compEnvC scope cl C X.env) fp) tg1 iter1 wi1)
    (hg1 : ∀ (s : Shared) (H : Hp) (C : Addr) (cl : List (Str × Addr)) (fp : List Addr), PG (X.blk s H scope (compEnvC scope cl C X.env) fp) tg1 g1)
    (he : ∀ (s : Shared) (H : Hp) (C : Addr) (cl : List (Str × Addr)) (fp : List Addr), PE (X.blk s H scope (compEnvC scope cl C X.env) fp) elt te)
    (hs : ∀ x, foldedSetIterable iter X.env x = pure x := by intro _; rfl) (hs1 : ∀ env x, foldedSetIterable iter1 env x = pure x := by intro _ _; rfl) : PE X (sc2 elt tg iter tg1 iter1 scope pos) (tSc2 K T.prog T.w wi g wi1 g1 te (own.map (·.2)) vs1) := by
  subst h
  rw [← hT.1, ← hT.2]
  exact pe_sc2 hc hu hN hi ok hv hg hi1 hg1 he hs hs1
end
/-- a, b = x, [..]: the second a list of the def's own, one of them a cell -/
def tAsgB (i j : Nat) (ts : TS) : TS := ts
theorem ps_asgB (i j : Nat) {X : Cx} {st : Stmt} {ts : TS} (h : PS X st ts) : PS X st (tAsgB i j ts) := h
section
variable {K : PySem.W.Frag} {T : Tx} {te tb : TE} {pe : PE1}
@[reducible, simp] def qAsgB (i j : Nat) (pa : PE1) (p : PA1) : PS1 := fun ρ F => pa ρ fun d => p ρ fun ds => i ≠ j ∧ F.nx ((ρ.set j (some (.o ds))).set i (some (.v d)))
instance {i j : Nat} {p : PA1} [ha : SE T te pe] [hb : SF T tb p] : SS T (tAsgB i j (tAsg (tTup (tCons te (tCons tb tNil))) (gTup K 2 (gCons (gName i) (gCons (gName j) gNil))))) (qAsgB i j pe p) where
  run := fun {c L H H0 σ ρ F D} s e f h o => ha.run s h fun v d H1 st r h1 => hb.run (s.step st) h1 fun a xs ds H2 st2 n ea r2 h2 => by
    refine ⟨by show 2 ≤ sizeLine; decide, fun q hq => ?_⟩
    have nq : a ≠ q := ne_of_none ea hq
    have st3 : Stp c H2 (upd H2 q (.tup [v, .ref a])) := .same (Same.new hq)
    have carry : Same (mask (L ++ c.M) H1) (mask ((a :: L) ++ c.M) (upd H2 q (.tup [v, .ref a]))) := fun b o z => by
      obtain ⟨q1, q2⟩ := mask_some z
      have hb : b ≠ a := fun y => by rw [y, n] at q2; cases q2
      rw [mask_out (by rw [List.cons_append]; simp only [List.mem_cons, not_or]; exact ⟨hb, q1⟩)]
      exact (st2.trans st3).keep b o (s.ok.out fun y => q1 (List.mem_append_right _ y)) q2
    have r3 : RpA T (mask (a :: (L ++ c.M)) (upd H2 q (.tup [v, .ref a]))) xs ds := r2.mono fun b o z => by
      obtain ⟨q1, q2⟩ := mask_some z
      rw [mask_out q1]
      exact Same.new hq b o q2
    have S := (s.step st).seto (i := j) (st2.trans st3) n (by rw [upd_ne nq]; exact ea) r3
    refine ⟨q, [v, .ref a], rfl, SqT.of upd_same, rfl, v, [.ref a], rfl, .ref a, [], rfl, rfl, ?_⟩
    have S2 := S.setv (i := i) (r.mono carry)
    have e2 : (σ.set i (some v)).set j (some (V.ref a)) = (σ.set j (some (V.ref a))).set i (some v) := List.set_comm _ _ h2.1
    rw [e2]
    refine o.nx _ _ _ _ S2 (e.trans (st.trans (st2.trans st3))) (fun b hb => ?_) h2.2
    rcases List.mem_cons.mp hb with rfl | hb
    · exact Stp.new_none s e (fresh_back (s.step st) st n)
    · exact f b hb
end
end
end DL
/-! Txt: the text by places -/
namespace DL
open PySem L2 PyProof.Rows
def top (i : Nat) : Stmt := PySem.Challenge.pw_pegwebs_k13_whole_more_arrows.main.body.getD i (.Pass ⟨0, 0, 0, 0⟩)
abbrev s__wall : Stmt := top 0
abbrev s_BadNumber___init__ : Stmt := inClass (top 3) 0
abbrev s_BadArrow___init__ : Stmt := inClass (top 4) 0
abbrev s_BadNames___init__ : Stmt := inClass (top 5) 0
abbrev s_BadWeb___init__ : Stmt := inClass (top 6) 0
abbrev s_BadPosition___init__ : Stmt := inClass (top 7) 0
abbrev s_NoArrow___init__ : Stmt := inClass (top 8) 0
abbrev s_OtherPegs___init__ : Stmt := inClass (top 9) 0
abbrev s_OtherGame___init__ : Stmt := inClass (top 10) 0
abbrev s_BadText___init__ : Stmt := inClass (top 11) 0
abbrev s_is_integer : Stmt := top 14
abbrev s_is_below : Stmt := top 15
abbrev s_check_pegs : Stmt := top 16
abbrev s_check_cost : Stmt := top 17
abbrev s_check_names : Stmt := top 18
abbrev s_set_of : Stmt := top 19
abbrev s_mark_of : Stmt := top 20
abbrev s_arrow_of : Stmt := top 21
abbrev s_meets : Stmt := top 22
abbrev s_number_in : Stmt := top 23
abbrev s_Web___init__ : Stmt := inClass (top 25) 0
abbrev s_Web_free : Stmt := inClass (top 25) 1
abbrev s_Web_read : Stmt := inClass (top 25) 2
abbrev s_Web_text : Stmt := inClass (top 25) 3
abbrev s_Web_is_strict : Stmt := inClass (top 25) 4
abbrev s_Web_is_free : Stmt := inClass (top 25) 5
abbrev s_Web_is_two_way : Stmt := inClass (top 25) 6
abbrev s_Web_cost_at : Stmt := inClass (top 25) 7
abbrev s_Web_with_arrow : Stmt := inClass (top 25) 8
abbrev s_Web_without : Stmt := inClass (top 25) 9
abbrev s_Web__mark : Stmt := inClass (top 25) 10
abbrev s_Web_turned : Stmt := inClass (top 25) 11
abbrev s_Web_renamed : Stmt := inClass (top 25) 12
abbrev s_Web_narrowed : Stmt := inClass (top 25) 13
abbrev s_Web_guards : Stmt := inClass (top 25) 14
abbrev s_Web___or__ : Stmt := inClass (top 25) 15
abbrev s_Web___eq__ : Stmt := inClass (top 25) 16
abbrev s_Web___len__ : Stmt := inClass (top 25) 17
abbrev s_Web___iter__ : Stmt := inClass (top 25) 18
abbrev s_Web___contains__ : Stmt := inClass (top 25) 19
abbrev s_costs_of : Stmt := top 26
abbrev s_least_of : Stmt := top 27
abbrev s_pair_of : Stmt := top 28
abbrev s_rows_of : Stmt := top 29
abbrev s_pegs_in : Stmt := top 30
abbrev s_arrow_in : Stmt := top 31
abbrev s_row_of : Stmt := top 32
abbrev s_Game___init__ : Stmt := inClass (top 35) 0
abbrev s_Game_plain : Stmt := inClass (top 35) 1
abbrev s_Game_read : Stmt := inClass (top 35) 2
abbrev s_Game_text : Stmt := inClass (top 35) 3
abbrev s_Game_is_strict : Stmt := inClass (top 35) 4
abbrev s_Game_is_free : Stmt := inClass (top 35) 5
abbrev s_Game_is_two_way : Stmt := inClass (top 35) 6
abbrev s_Game_is_plain : Stmt := inClass (top 35) 7
abbrev s_Game_lower : Stmt := inClass (top 35) 8
abbrev s_Game_only : Stmt := inClass (top 35) 9
abbrev s_Game_with_web : Stmt := inClass (top 35) 10
abbrev s_Game_turned : Stmt := inClass (top 35) 11
abbrev s_Game_renamed : Stmt := inClass (top 35) 12
abbrev s_Game_narrowed : Stmt := inClass (top 35) 13
abbrev s_Game_guards : Stmt := inClass (top 35) 14
abbrev s_Game___eq__ : Stmt := inClass (top 35) 15
abbrev s_Game___len__ : Stmt := inClass (top 35) 16
abbrev s_Game___getitem__ : Stmt := inClass (top 35) 17
abbrev s_Game___iter__ : Stmt := inClass (top 35) 18
abbrev s_check_game : Stmt := top 36
abbrev s_check_position : Stmt := top 37
abbrev s_led : Stmt := top 39
abbrev s_tied_by : Stmt := top 40
abbrev s_ends_of : Stmt := top 41
abbrev s_sets_at : Stmt := top 43
abbrev s_sets_of : Stmt := top 44
abbrev s_many_in : Stmt := top 45
abbrev s_room_size : Stmt := top 46
abbrev s_is_within : Stmt := top 47
abbrev s_in_room : Stmt := top 48
abbrev s__law_draws : Stmt := top 50
abbrev s__law_take : Stmt := top 51
abbrev s__law_guards : Stmt := top 52
abbrev s__law_guard : Stmt := top 53
abbrev s__law_cost : Stmt := top 54
abbrev s__law_pairs : Stmt := top 55
abbrev s__law_web : Stmt := top 56
abbrev s__law_kind : Stmt := top 57
abbrev s__law_webs : Stmt := top 58
abbrev s__law_sizes : Stmt := top 59
abbrev s__law_built : Stmt := top 60
abbrev s__law_position : Stmt := top 61
abbrev s__law_open : Stmt := top 62
abbrev s__law_behind : Stmt := top 63
abbrev s__law_costs : Stmt := top 64
abbrev s__law_leads : Stmt := top 65
abbrev s__law_box_rows : Stmt := top 66
abbrev s__law_reached : Stmt := top 67
abbrev s__law_tied : Stmt := top 68
abbrev s__law_met : Stmt := top 69
abbrev s__law_usable : Stmt := top 70
abbrev s__law_ends : Stmt := top 71
abbrev s__law_sets : Stmt := top 72
abbrev s__law_size : Stmt := top 73
abbrev s__law_room : Stmt := top 74
abbrev s__law_tall_position : Stmt := top 75
abbrev s__law_like : Stmt := top 76
abbrev s__law_names : Stmt := top 77
abbrev s__law_more : Stmt := top 78
abbrev s__law_many_webs : Stmt := top 79
abbrev s__law_within : Stmt := top 80
abbrev s__law_others_agree : Stmt := top 81
abbrev s__law_unions : Stmt := top 82
abbrev s_law : Stmt := top 83
end DL
set_option maxHeartbeats 0
namespace DL
open PySem L2 PyProof.Rows
noncomputable section
def d_is_integer : He.DefD := ⟨("is_integer", none), "is_integer", "is_integer", defArgs s_is_integer, defBody s_is_integer, defScope s_is_integer, [], []⟩
def d_is_below : He.DefD := ⟨("is_below", none), "is_below", "is_below", defArgs s_is_below, defBody s_is_below, defScope s_is_below, [], []⟩
def d_check_pegs : He.DefD := ⟨("check_pegs", none), "check_pegs", "check_pegs", defArgs s_check_pegs, defBody s_check_pegs, defScope s_check_pegs, [], []⟩
def d_meets : He.DefD := ⟨("meets", none), "meets", "meets", defArgs s_meets, defBody s_meets, defScope s_meets, [], []⟩
def d_set_of : He.DefD := ⟨("set_of", none), "set_of", "set_of", defArgs s_set_of, defBody s_set_of, defScope s_set_of, [], []⟩
def d_mark_of : He.DefD := ⟨("mark_of", none), "mark_of", "mark_of", defArgs s_mark_of, defBody s_mark_of, defScope s_mark_of, [], []⟩
def d_arrow_of : He.DefD := ⟨("arrow_of", none), "arrow_of", "arrow_of", defArgs s_arrow_of, defBody s_arrow_of, defScope s_arrow_of, [], []⟩
def d_check_names : He.DefD := ⟨("check_names", none), "check_names", "check_names", defArgs s_check_names, defBody s_check_names, defScope s_check_names, [], []⟩
def d_costs_of : He.DefD := ⟨("costs_of", none), "costs_of", "costs_of", defArgs s_costs_of, defBody s_costs_of, defScope s_costs_of, [], []⟩
def d_Web___init__ : He.DefD := ⟨("Web", some "__init__"), "__init__", "Web.__init__", defArgs s_Web___init__, defBody s_Web___init__, defScope s_Web___init__, [], []⟩
def d_least_of : He.DefD := ⟨("least_of", none), "least_of", "least_of", defArgs s_least_of, defBody s_least_of, defScope s_least_of, [], []⟩
def d_Web_turned : He.DefD := ⟨("Web", some "turned"), "turned", "Web.turned", defArgs s_Web_turned, defBody s_Web_turned, defScope s_Web_turned, [], []⟩
def d_Web_renamed : He.DefD := ⟨("Web", some "renamed"), "renamed", "Web.renamed", defArgs s_Web_renamed, defBody s_Web_renamed, defScope s_Web_renamed, [], []⟩
def d_Web___or__ : He.DefD := ⟨("Web", some "__or__"), "__or__", "Web.__or__", defArgs s_Web___or__, defBody s_Web___or__, defScope s_Web___or__, [], []⟩
def d_Game___init__ : He.DefD := ⟨("Game", some "__init__"), "__init__", "Game.__init__", defArgs s_Game___init__, defBody s_Game___init__, defScope s_Game___init__, [], []⟩
def d_Game_turned : He.DefD := ⟨("Game", some "turned"), "turned", "Game.turned", defArgs s_Game_turned, defBody s_Game_turned, defScope s_Game_turned, [], []⟩
def d_Game_renamed : He.DefD := ⟨("Game", some "renamed"), "renamed", "Game.renamed", defArgs s_Game_renamed, defBody s_Game_renamed, defScope s_Game_renamed, [], []⟩
def d_Game___getitem__ : He.DefD := ⟨("Game", some "__getitem__"), "__getitem__", "Game.__getitem__", defArgs s_Game___getitem__, defBody s_Game___getitem__, defScope s_Game___getitem__, [], []⟩
def d_check_game : He.DefD := ⟨("check_game", none), "check_game", "check_game", defArgs s_check_game, defBody s_check_game, defScope s_check_game, [], []⟩
def d_check_position : He.DefD := ⟨("check_position", none), "check_position", "check_position", defArgs s_check_position, defBody s_check_position, defScope s_check_position, [], []⟩
def d_ends_of : He.DefD := ⟨("ends_of", none), "ends_of", "ends_of", defArgs s_ends_of, defBody s_ends_of, defScope s_ends_of, [], []⟩
def d_led : He.DefD := ⟨("led", none), "led", "led", defArgs s_led, defBody s_led, defScope s_led, [], []⟩
def d_tied_by : He.DefD := ⟨("tied_by", none), "tied_by", "tied_by", defArgs s_tied_by, defBody s_tied_by, defScope s_tied_by, [], []⟩
def d_many_in : He.DefD := ⟨("many_in", none), "many_in", "many_in", defArgs s_many_in, defBody s_many_in, defScope s_many_in, [], []⟩
def d_is_within : He.DefD := ⟨("is_within", none), "is_within", "is_within", defArgs s_is_within, defBody s_is_within, defScope s_is_within, [], []⟩
def d_Game_guards : He.DefD := ⟨("Game", some "guards"), "guards", "Game.guards", defArgs s_Game_guards, defBody s_Game_guards, defScope s_Game_guards, [], []⟩
def d_sets_at : He.DefD := ⟨("sets_at", none), "sets_at", "sets_at", defArgs s_sets_at, defBody s_sets_at, defScope s_sets_at, [], []⟩
def d_sets_of : He.DefD := ⟨("sets_of", none), "sets_of", "sets_of", defArgs s_sets_of, defBody s_sets_of, defScope s_sets_of, [], []⟩
def d_room_size : He.DefD := ⟨("room_size", none), "room_size", "room_size", defArgs s_room_size, defBody s_room_size, defScope s_room_size, [], []⟩
def d_in_room : He.DefD := ⟨("in_room", none), "in_room", "in_room", defArgs s_in_room, defBody s_in_room, defScope s_in_room, [], []⟩
def d__law_take : He.DefD := ⟨("_law_take", none), "_law_take", "_law_take", defArgs s__law_take, defBody s__law_take, defScope s__law_take, [], []⟩
def d__law_guards : He.DefD := ⟨("_law_guards", none), "_law_guards", "_law_guards", defArgs s__law_guards, defBody s__law_guards, defScope s__law_guards, [], []⟩
def d__law_cost : He.DefD := ⟨("_law_cost", none), "_law_cost", "_law_cost", defArgs s__law_cost, defBody s__law_cost, defScope s__law_cost, [], []⟩
def d__law_kind : He.DefD := ⟨("_law_kind", none), "_law_kind", "_law_kind", defArgs s__law_kind, defBody s__law_kind, defScope s__law_kind, [], []⟩
def d__law_guard : He.DefD := ⟨("_law_guard", none), "_law_guard", "_law_guard", defArgs s__law_guard, defBody s__law_guard, defScope s__law_guard, [], []⟩
def d__law_sizes : He.DefD := ⟨("_law_sizes", none), "_law_sizes", "_law_sizes", defArgs s__law_sizes, defBody s__law_sizes, defScope s__law_sizes, [], []⟩
def d__law_position : He.DefD := ⟨("_law_position", none), "_law_position", "_law_position", defArgs s__law_position, defBody s__law_position, defScope s__law_position, [], []⟩
def d__law_tall_position : He.DefD := ⟨("_law_tall_position", none), "_law_tall_position", "_law_tall_position", defArgs s__law_tall_position, defBody s__law_tall_position, defScope s__law_tall_position, [], []⟩
def d__law_pairs : He.DefD := ⟨("_law_pairs", none), "_law_pairs", "_law_pairs", defArgs s__law_pairs, defBody s__law_pairs, defScope s__law_pairs, [], []⟩
def d__law_web : He.DefD := ⟨("_law_web", none), "_law_web", "_law_web", defArgs s__law_web, defBody s__law_web, defScope s__law_web, [], []⟩
def d__law_webs : He.DefD := ⟨("_law_webs", none), "_law_webs", "_law_webs", defArgs s__law_webs, defBody s__law_webs, defScope s__law_webs, [], []⟩
def d__law_built : He.DefD := ⟨("_law_built", none), "_law_built", "_law_built", defArgs s__law_built, defBody s__law_built, defScope s__law_built, [], []⟩
def d__law_behind : He.DefD := ⟨("_law_behind", none), "_law_behind", "_law_behind", defArgs s__law_behind, defBody s__law_behind, defScope s__law_behind, [], []⟩
def d__law_ends : He.DefD := ⟨("_law_ends", none), "_law_ends", "_law_ends", defArgs s__law_ends, defBody s__law_ends, defScope s__law_ends, [], []⟩
def d__law_met : He.DefD := ⟨("_law_met", none), "_law_met", "_law_met", defArgs s__law_met, defBody s__law_met, defScope s__law_met, [], []⟩
def d__law_usable : He.DefD := ⟨("_law_usable", none), "_law_usable", "_law_usable", defArgs s__law_usable, defBody s__law_usable, defScope s__law_usable, [], []⟩
def d__law_size : He.DefD := ⟨("_law_size", none), "_law_size", "_law_size", defArgs s__law_size, defBody s__law_size, defScope s__law_size, [], []⟩
def d__law_reached : He.DefD := ⟨("_law_reached", none), "_law_reached", "_law_reached", defArgs s__law_reached, defBody s__law_reached, defScope s__law_reached, [], []⟩
def d__law_tied : He.DefD := ⟨("_law_tied", none), "_law_tied", "_law_tied", defArgs s__law_tied, defBody s__law_tied, defScope s__law_tied, [], []⟩
def d__law_sets : He.DefD := ⟨("_law_sets", none), "_law_sets", "_law_sets", defArgs s__law_sets, defBody s__law_sets, defScope s__law_sets, [], []⟩
def d__law_within : He.DefD := ⟨("_law_within", none), "_law_within", "_law_within", defArgs s__law_within, defBody s__law_within, defScope s__law_within, [], []⟩
def d__law_names : He.DefD := ⟨("_law_names", none), "_law_names", "_law_names", defArgs s__law_names, defBody s__law_names, defScope s__law_names, [], []⟩
def d__law_many_webs : He.DefD := ⟨("_law_many_webs", none), "_law_many_webs", "_law_many_webs", defArgs s__law_many_webs, defBody s__law_many_webs, defScope s__law_many_webs, [], []⟩
def d__law_more : He.DefD := ⟨("_law_more", none), "_law_more", "_law_more", defArgs s__law_more, defBody s__law_more, defScope s__law_more, [], []⟩
def d__law_box_rows : He.DefD := ⟨("_law_box_rows", none), "_law_box_rows", "_law_box_rows", defArgs s__law_box_rows, defBody s__law_box_rows, defScope s__law_box_rows, [], []⟩
def d__law_open : He.DefD := ⟨("_law_open", none), "_law_open", "_law_open", defArgs s__law_open, defBody s__law_open, defScope s__law_open, [], []⟩
def d__law_costs : He.DefD := ⟨("_law_costs", none), "_law_costs", "_law_costs", defArgs s__law_costs, defBody s__law_costs, defScope s__law_costs, [], []⟩
def d__law_leads : He.DefD := ⟨("_law_leads", none), "_law_leads", "_law_leads", defArgs s__law_leads, defBody s__law_leads, defScope s__law_leads, [], []⟩
def d__law_room : He.DefD := ⟨("_law_room", none), "_law_room", "_law_room", defArgs s__law_room, defBody s__law_room, defScope s__law_room, [], []⟩
def d__law_draws : He.DefD := ⟨("_law_draws", none), "_law_draws", "_law_draws", defArgs s__law_draws, defBody s__law_draws, defScope s__law_draws, [], []⟩
def d__law_like : He.DefD := ⟨("_law_like", none), "_law_like", "_law_like", defArgs s__law_like, defBody s__law_like, defScope s__law_like, [], []⟩
def d__law_others_agree : He.DefD := ⟨("_law_others_agree", none), "_law_others_agree", "_law_others_agree", defArgs s__law_others_agree, defBody s__law_others_agree, defScope s__law_others_agree, [], []⟩
def d__law_unions : He.DefD := ⟨("_law_unions", none), "_law_unions", "_law_unions", defArgs s__law_unions, defBody s__law_unions, defScope s__law_unions, [], []⟩
def d_law : He.DefD := ⟨("law", none), "law", "law", defArgs s_law, defBody s_law, defScope s_law, [], []⟩
def hdFn : List He.DefD := [d_is_integer, d_is_below, d_check_pegs, d_meets, d_set_of, d_mark_of, d_arrow_of, d_check_names, d_costs_of, d_Web___init__, d_least_of, d_Web_turned, d_Web_renamed, d_Web___or__, d_Game___init__, d_Game_turned, d_Game_renamed, d_Game___getitem__, d_check_game, d_check_position, d_ends_of, d_led, d_tied_by, d_many_in, d_is_within, d_Game_guards, d_sets_at, d_sets_of, d_room_size, d_in_room, d__law_take, d__law_guards, d__law_cost, d__law_kind, d__law_guard, d__law_sizes, d__law_position, d__law_tall_position, d__law_pairs, d__law_web, d__law_webs, d__law_built, d__law_behind, d__law_ends, d__law_met, d__law_usable, d__law_size, d__law_reached, d__law_tied, d__law_sets, d__law_within, d__law_names, d__law_many_webs, d__law_more, d__law_box_rows, d__law_open, d__law_costs, d__law_leads, d__law_room, d__law_draws, d__law_like, d__law_others_agree, d__law_unions, d_law]
def hdFa : List He.Fa := [.glo "is_integer", .glo "is_below", .glo "check_pegs", .glo "meets", .glo "set_of", .glo "mark_of", .glo "arrow_of", .glo "check_names", .glo "costs_of", .glo "least_of", .glo "check_game", .glo "check_position", .glo "ends_of", .glo "led", .glo "tied_by", .glo "many_in", .glo "is_within", .glo "sets_at", .glo "sets_of", .glo "room_size", .glo "in_room", .glo "_law_take", .glo "_law_guards", .glo "_law_cost", .glo "_law_kind", .glo "_law_guard", .glo "_law_sizes", .glo "_law_position", .glo "_law_tall_position", .glo "_law_pairs", .glo "_law_web", .glo "_law_webs", .glo "_law_built", .glo "_law_behind", .glo "_law_ends", .glo "_law_met", .glo "_law_usable", .glo "_law_size", .glo "_law_reached", .glo "_law_tied", .glo "_law_sets", .glo "_law_within", .glo "_law_names", .glo "_law_many_webs", .glo "_law_more", .glo "_law_box_rows", .glo "_law_open", .glo "_law_costs", .glo "_law_leads", .glo "_law_room", .glo "_law_draws", .glo "_law_like", .glo "_law_others_agree", .glo "_law_unions", .glo "law", .glo "Web", .cls "Web", .mkr "Web", .glo "Game", .cls "Game", .mkr "Game", .noat "Web" "pegs", .noat "Web" "_costs", .noat "Web" "arrows", .noat "Game" "pegs", .noat "Game" "webs", .noat "Game" "discs", .meth "Web" "turned", .meth "Web" "renamed", .meth "Web" "__or__", .meth "Game" "turned", .meth "Game" "renamed", .meth "Game" "__getitem__", .meth "Game" "guards", .int "MOST_COST" (10 ^ 60), .int "MOST_DISCS" 40, .free "len", .free "list", .free "tuple", .free "int", .free "bool", .free "sorted", .free "isinstance", .free "set", .free "range", .free "enumerate", .free "zip", .free "all", .free "min", .free "repr"]
def hdEx (K : PySem.W.Frag) : Bool := He.eqO (PySem.W.findIn K (.ref (He.ga K "Web")) "__class__") (some (some (.builtin "object.__class__"))) && (He.eqO (PySem.W.findIn K (.ref (He.ga K "Game")) "__class__") (some (some (.builtin "object.__class__"))) && (He.eqO (PySem.W.specialIn K (.builtin "object.__class__") "__get__") (some (some (.builtin "getset_descriptor.__get__"))) && (decide (PySem.W.takesIn K (.builtin "object.__class__") = some true) && (decide (PySem.W.mroIn K (He.ga K "Web") (.type "object") = some true) && (decide (PySem.W.mroIn K (He.ga K "Game") (.type "object") = some true) && (PySem.W.fnIn K (He.ma K (He.ga K "Game") "__getitem__") && PySem.W.selfFirst K (He.ga K "Web")))))))
end
end DL
namespace DL
open PySem L2 PyProof.Rows
noncomputable section
def names0 : List PySem.Str := ["_wall", "PegError", "BadNumber", "BadArrow", "BadNames", "BadWeb", "BadPosition", "NoArrow", "OtherPegs", "OtherGame", "BadText", "MOST_COST", "is_integer", "is_below", "check_pegs"]
def names1 : List PySem.Str := ["check_cost", "check_names", "set_of", "mark_of", "arrow_of", "meets", "number_in", "Web", "costs_of", "least_of", "pair_of", "rows_of", "pegs_in", "arrow_in", "row_of"]
def names2 : List PySem.Str := ["MOST_DISCS", "Game", "check_game", "check_position", "led", "tied_by", "ends_of", "sets_at", "sets_of", "many_in", "room_size", "is_within", "in_room", "_law_draws", "_law_take"]
def names3 : List PySem.Str := ["_law_guards", "_law_guard", "_law_cost", "_law_pairs", "_law_web", "_law_kind", "_law_webs", "_law_sizes", "_law_built", "_law_position", "_law_open", "_law_behind", "_law_costs", "_law_leads", "_law_box_rows"]
def names4 : List PySem.Str := ["_law_reached", "_law_tied", "_law_met", "_law_usable", "_law_ends", "_law_sets", "_law_size", "_law_room", "_law_tall_position", "_law_like", "_law_names", "_law_more", "_law_many_webs", "_law_within", "_law_others_agree"]
def names5 : List PySem.Str := ["_law_unions"]
def namesA : List PySem.Str := names0 ++ (names1 ++ (names2 ++ (names3 ++ (names4 ++ (names5)))))
def at1 (g : Addr → Option Obj) (f : Obj → List Addr) (a : Addr) : List Addr := match g a with
  | some o => f o
  | none => []
def valsO (o : Obj) : List Addr := match o.data with
  | .dict es _ => es.toList.flatMap fun e => He.refV e.val
  | _ => []
def codeO (o : Obj) : List Addr := match o.data with
  | .func fd => He.refV fd.code
  | .cls cd => [cd.ns]
  | _ => []
def hkA (g : Addr → Option Obj) : List Addr := at1 g valsO mainGlobals
def hkB (g : Addr → Option Obj) : List Addr := (hkA g).flatMap (at1 g codeO)
def hkC (g : Addr → Option Obj) : List Addr := (hkB g).flatMap (at1 g valsO)
def hkAs (g : Addr → Option Obj) : List Addr := mainGlobals :: (hkA g ++ (hkB g ++ (hkC g ++ (hkC g).flatMap (at1 g codeO))))
abbrev HkAl : Type := He.AlD × Bool
def hkObs (g : Addr → Option Obj) : HkAl := (He.obsD hdFa hdFn (He.frG g (hkAs g)), hdEx (He.frG g (hkAs g)))
abbrev hk : PySem.W.Hook where
  α := HkAl
  obs := fun s => hkObs s.heap.get?
  val := fun _ => (He.valD hdFn, true)
  says := fun _ h => ∃ K : PySem.W.Frag, K.In h ∧ He.SaysD hdFa hdFn K ∧ hdEx K = true
  of := fun _ _ e => ⟨_, He.frG_in, congrArg (fun z : HkAl => z.1) e, congrArg (fun z : HkAl => z.2) e⟩
  keeps := fun _ _ _ ⟨K, hK, c⟩ k => ⟨K, PySem.W.Frag.In.keeps hK k, c⟩
theorem hkObs_eq {g : Addr → Option Obj} {s : Shared} (h : ∀ a, g a = s.heap.get? a) : hkObs g = hk.obs s := by
  have e : g = s.heap.get? := funext h
  rw [e] <;> rfl
abbrev hkR : PySem.W.OpenRow := PySem.W.OpenLaw.row PySem.Challenge.rw_pegwebs_k13_whole_more_arrows
abbrev hkQ : Program := PySem.W.view hkR.prog [83]
def hkOb (s : PySem.W.SharedT) : HkAl := hkObs (HandSHeadRun.getT s)
theorem hkOb_eq (s : PySem.W.SharedT) : hkOb s = hk.obs s.abs := hkObs_eq (HandSHeadRun.getT_eq s)
theorem hkRun (w : World) : HandSHeadRun.RunEq hkR hkQ hk hkOb 20000 namesA w := by
  intro os
  kernel_rfl
end
end DL
set_option maxHeartbeats 4000000
/-! M1: arrows, guards, webs: plain -/
namespace DL
open PySem L2 PyProof.Rows
noncomputable section
/-- a method of one of the two classes -/
structure UseM (P : Program) (w : World) (K : PySem.W.Frag) (mg : Str → Option Value) (base : Heap) (C : Addr) (x : Str) (k : Nat) (ps : List Str) (sp : Sp) (f : Addr) (fd : FuncData) : Prop where
  ok : FnOk P w K mg base CX0 k f fd ps sp
  m : Meth K C x f
  b : Binds K fd ps []
structure UseI (P : Program) (w : World) (K : PySem.W.Frag) (mg : Str → Option Value) (base : Heap) (C : Addr) (k : Nat) (ps : List Str) (sp : Sp) (f : Addr) (fd : FuncData) : Prop where
  ok : FnOk P w K mg base CX0 k f fd ps sp
  mkr : Mk K C f
  b : Binds K fd ps []
abbrev intsT (ns : List Int) : D := .tup (ns.map .int)
abbrev intsL (ns : List Int) : D := .lst (ns.map .int)
/-- an arrow: from, to, guard, cost -/
structure Ar where
  a : Int
  b : Int
  g : List Int
  c : Int
abbrev Ar.d (r : Ar) : D := .tup [.int r.a, .int r.b, intsT r.g, .int r.c]
abbrev markD (a b : Int) (g : List Int) : D := .tup [.int a, .int b, intsT g]
/-- a guard -/
structure GOk (k : Int) (g : List Int) : Prop where
  ne : g ≠ []
  up : g.Pairwise (· < ·)
  rg : ∀ x ∈ g, 0 ≤ x ∧ x < k
  few : g.length ≤ 5
structure ArOk (k : Int) (r : Ar) : Prop where
  a : 0 ≤ r.a ∧ r.a < k
  b : 0 ≤ r.b ∧ r.b < k
  ab : r.a ≠ r.b
  g : GOk k r.g
  ga : r.a ∉ r.g
  gb : r.b ∉ r.g
  c : 1 ≤ r.c ∧ r.c ≤ 10 ^ 60
def Ar.mark (r : Ar) : Int × Int × List Int := (r.a, r.b, r.g)
def srt (g : List Int) : List Int := g.mergeSort (fun a b => decide (a ≤ b))
theorem srt_perm (g : List Int) : (srt g).Perm g := List.mergeSort_perm _ _
theorem srt_up (g : List Int) : (srt g).Pairwise (· ≤ ·) := by
  refine (List.pairwise_mergeSort (le := fun a b : Int => decide (a ≤ b)) (fun a b c h1 h2 => ?_) (fun a b => ?_) g).imp fun h => of_decide_eq_true h
  · have := of_decide_eq_true h1; have := of_decide_eq_true h2; exact decide_eq_true (by omega)
  · rcases Int.le_total a b with h | h <;> simp [h]
/-- sorted lists with the same members -/
theorem up_unique : ∀ {a b : List Int}, a.Pairwise (· ≤ ·) → b.Pairwise (· ≤ ·) → a.Perm b → a = b := fun h1 h2 p => p.eq_of_pairwise (le := (· ≤ ·)) (fun a b _ _ => Int.le_antisymm) h1 h2
theorem lt_up {a : List Int} (h : a.Pairwise (· < ·)) : a.Pairwise (· ≤ ·) := h.imp Int.le_of_lt
theorem lt_nodup {a : List Int} (h : a.Pairwise (· < ·)) : a.Nodup := h.imp fun h => Int.ne_of_lt h
theorem srt_of {a b : List Int} (h : b.Pairwise (· ≤ ·)) (p : b.Perm a) : b = srt a := up_unique h (srt_up a) (p.trans (srt_perm a).symm)
theorem srt_id {a : List Int} (h : a.Pairwise (· < ·)) : srt a = a := (srt_of (lt_up h) (.refl _)).symm
theorem srt_lt {g : List Int} (h : g.Nodup) : (srt g).Pairwise (· < ·) := by
  have h1 := srt_up g
  have h2 : (srt g).Nodup := (srt_perm g).nodup_iff.mpr h
  refine (List.Pairwise.and h1 h2).imp fun {a b} h => ?_
  obtain ⟨h3, h4⟩ := h
  omega
theorem lt_unique {a b : List Int} (h1 : a.Pairwise (· < ·)) (h2 : b.Pairwise (· < ·)) (h : ∀ x, x ∈ a ↔ x ∈ b) : a = b :=
  up_unique (lt_up h1) (lt_up h2) ((List.perm_ext_iff_of_nodup (lt_nodup h1) (lt_nodup h2)).mpr h)
/-! what sorted gives, ints -/
theorem leD_int {i j : Int} : leD (.int i) (.int j) ↔ i ≤ j := by
  unfold leD
  simp only [D.py]
  rw [PySem.W.dataLt_int]
  simp
theorem perm_ints {fs : List D} {ns : List Int} (h : fs.Perm (ns.map .int)) (p : fs.Pairwise leD) : fs = (srt ns).map .int := by
  obtain ⟨L, pm, e⟩ := perm_map_inv h ns rfl
  subst e
  have up : L.Pairwise (· ≤ ·) := (List.pairwise_map.mp p).imp fun h => leD_int.mp h
  rw [srt_of up pm]
theorem sortOk_ints (ns : List Int) : SortOk (ns.map .int) := by
  refine ⟨fun d hd e he => ?_, fun d hd => ?_, .inr (.inl fun d hd => ?_)⟩
  · obtain ⟨i, _, rfl⟩ := List.mem_map.mp hd
    obtain ⟨j, _, rfl⟩ := List.mem_map.mp he
    simp [D.py, PySem.W.alike]
  · obtain ⟨i, _, rfl⟩ := List.mem_map.mp hd
    simp
  · obtain ⟨i, _, rfl⟩ := List.mem_map.mp hd
    exact ⟨i, rfl⟩
@[simp] theorem mem_intD {i : Int} {ns : List Int} : D.int i ∈ ns.map D.int ↔ i ∈ ns := by
  rw [List.mem_map]
  exact ⟨fun ⟨j, h, e⟩ => by cases e; exact h, fun h => ⟨i, h, rfl⟩⟩
theorem get_intD {ns : List Int} {i : Nat} {d : D} (h : (ns.map D.int)[i]? = some d) : ∃ x, ns[i]? = some x ∧ d = .int x := by
  rw [List.getElem?_map] at h
  obtain ⟨x, h1, h2⟩ := Option.map_eq_some_iff.mp h
  exact ⟨x, h1, h2.symm⟩
theorem mem_get {α : Type} {l : List α} {i : Nat} {x : α} (h : l[i]? = some x) : x ∈ l := List.mem_of_getElem? h
theorem cut_pre {ds : List D} {i : Nat} (h : i ≤ ds.length) : List.take (HT.sIx ds.length ds.length (some (i : Int)) - HT.sIx ds.length 0 none) (List.drop (HT.sIx ds.length 0 none) ds) = ds.take i := by
  have e1 : HT.sIx ds.length ds.length (some (i : Int)) = i := by
    rw [HT.sIx_nat]
    omega
  have e2 : HT.sIx ds.length 0 none = 0 := rfl
  rw [e1, e2, List.drop_zero, Nat.sub_zero]
theorem nodup_take {α : Type} {l : List α} {i : Nat} {x : α} (hn : l.Nodup) (h : l[i]? = some x) : x ∉ l.take i := by
  intro z
  obtain ⟨j, hj, e⟩ := List.mem_iff_getElem.mp z
  rw [List.length_take] at hj
  rw [List.getElem_take] at e
  obtain ⟨hi, e2⟩ := List.getElem?_eq_some_iff.mp h
  have := (List.getElem?_inj (i := j) (j := i) (by omega) hn).mp (by rw [List.getElem?_eq_getElem (by omega), List.getElem?_eq_getElem hi, e, e2])
  omega
end
end DL
namespace DL
open PySem L2 PyProof.Rows
noncomputable section
section
variable {T : Tx} {K : PySem.W.Frag} {mg : Str → Option Value} {base : Heap} {f f0 f1 f2 f3 f4 f5 f6 f7 : Addr} {fd fd0 fd1 fd2 fd3 fd4 fd5 fd6 fd7 : FuncData} [ci : CI T K]
def po_is_integer : List D → (D → Prop) → Prop := fun ds P => ∃ (i : Int), ds = [.int i] ∧ P (.bl true)
theorem sc_is_integer : FnScope ["thing"] ["thing"] (defScope s_is_integer) := ⟨rfl, rfl, rfl, by decide +kernel, rfl, by decide +kernel, by decide +kernel⟩
theorem ok_is_integer (F : FnP K "is_integer" "is_integer" s_is_integer f fd) (Z : Free mg)  : FnOk T.prog T.w K mg base CX0 1 f fd ["thing"] (spD T po_is_integer) := by
  have sc := sc_is_integer
  refine okD (T := T) F sc (fun ds P h => ?_) fun cdv A outer s H E hr => ⟨_, (pss_one (ps_ret (pe_and (pe_callB (isi2 (K := K) rfl) (by rfl) Z.isinstance bt_isinstance (pa_cons (pv 0) (pa_cons (pe_bltn (v := .ty "int") (by rfl) Z.int bt_int rfl) pa_nil))) (pe_one (pe_not (pe_callB (isi2 (K := K) rfl) (by rfl) Z.isinstance bt_isinstance (pa_cons (pv 0) (pa_cons (pe_bltn (v := .ty "bool") (by rfl) Z.bool bt_bool rfl) pa_nil)))))))), fun ds P h => ?_⟩
  · obtain ⟨i, rfl, _⟩ := h; rfl
  · obtain ⟨i, rfl, h⟩ := h
    refine Left.mk ?_
    simpa [argsOf, isiD] using h
def po_is_below : List D → (D → Prop) → Prop := fun ds P => ∃ (i k : Int), ds = [.int i, .int k] ∧ P (.bl (decide (0 ≤ i ∧ i < k)))
theorem sc_is_below : FnScope ["thing", "limit"] ["thing", "limit"] (defScope s_is_below) := ⟨rfl, rfl, rfl, by decide +kernel, rfl, by decide +kernel, by decide +kernel⟩
theorem ok_is_below (F : FnP K "is_below" "is_below" s_is_below f fd) (Z : Free mg) (U_is_integer : Use T.prog T.w K mg base "is_integer" 1 ["thing"] (spD T po_is_integer) f0 fd0) : FnOk T.prog T.w K mg base CX0 2 f fd ["thing", "limit"] (spD T po_is_below) := by
  have sc := sc_is_below
  refine okD (T := T) F sc (fun ds P h => ?_) fun cdv A outer s H E hr => ⟨_, (pss_one (ps_ret (pe_and (pe_use U_is_integer (hr.mono (by decide)) (by rfl) (pa_cons (pv 0) pa_nil)) (pe_one (pe_chain o_le o_lt pe_int (pv 0) (pv 1)))))), fun ds P h => ?_⟩
  · obtain ⟨i, k, rfl, _⟩ := h; rfl
  · obtain ⟨i, k, rfl, h⟩ := h
    refine Left.mk ?_
    simp [argsOf, po_is_integer]
    by_cases h0 : 0 ≤ i <;> by_cases h1 : i < k <;> simpa [h0, h1] using h
def po_check_pegs : List D → (D → Prop) → Prop := fun ds P => ∃ (k : Int), ds = [.int k] ∧ (3 ≤ k ∧ k ≤ 5) ∧ P (.int k)
theorem sc_check_pegs : FnScope ["pegs"] ["pegs"] (defScope s_check_pegs) := ⟨rfl, rfl, rfl, by decide +kernel, rfl, by decide +kernel, by decide +kernel⟩
theorem ok_check_pegs (F : FnP K "check_pegs" "check_pegs" s_check_pegs f fd) (Z : Free mg) (U_is_integer : Use T.prog T.w K mg base "is_integer" 1 ["thing"] (spD T po_is_integer) f0 fd0) : FnOk T.prog T.w K mg base CX0 2 f fd ["pegs"] (spD T po_check_pegs) := by
  have sc := sc_check_pegs
  refine okD (T := T) F sc (fun ds P h => ?_) fun cdv A outer s H E hr => ⟨_, (pss_cons (ps_if (PW.pt (pw_or (pt_not (pt_val (pe_use U_is_integer (hr.mono (by decide)) (by rfl) (pa_cons (pv 0) pa_nil)))) (pw_or1 (pt_not (pt_chain o_le o_le pe_int (pv 0) pe_int))))) (pss_one ps_never) pss_nil)
        (pss_one (ps_ret (pv 0)))), fun ds P h => ?_⟩
  · obtain ⟨k, rfl, _⟩ := h; rfl
  · obtain ⟨k, rfl, p0, h⟩ := h
    refine Left.mk ?_
    simp [argsOf, po_is_integer]
    simpa [p0.1, p0.2] using h
def po_meets : List D → (D → Prop) → Prop := fun ds P => ∃ (g s : List Int) (d : D), ds = [intsT g, d] ∧ (d = intsT s ∨ d = intsL s) ∧ P (.bl (g.any fun x => decide (x ∈ s)))
theorem sc_meets : FnScope ["guard", "pegs", "peg"] ["guard", "pegs"] (defScope s_meets) := ⟨rfl, rfl, rfl, by decide +kernel, rfl, by decide +kernel, by decide +kernel⟩
theorem ok_meets (F : FnP K "meets" "meets" s_meets f fd) (Z : Free mg)  : FnOk T.prog T.w K mg base CX0 1 f fd ["guard", "pegs"] (spD T po_meets) := by
  have sc := sc_meets
  refine okD (T := T) F sc (fun ds P h => ?_) fun cdv A outer s H E hr => ⟨_, (pss_cons (ps_for PassesOwn.never rfl (pi_seqK (K := K) rfl (pv 0)) (pg_name (i := 2) sc.nd rfl (by first | exact Or.inl rfl | exact Or.inr rfl)) (pss_one (ps_if (pt_cmpR (o_inK (K := K) rfl (hu65 hr)) (pv 2) (pv 1) (by rfl)) (pss_one (ps_ret pe_bl)) pss_nil)))
        (pss_one (ps_ret pe_bl))), fun ds P h => ?_⟩
  · obtain ⟨g, s, d, rfl, _⟩ := h; rfl
  · obtain ⟨g, s, d, rfl, p0, h⟩ := h
    refine Left.mk ?_
    simp [argsOf]
    refine ⟨fun i ρ => (∃ o, ρ = [some (.v (intsT g)), some (.v d), o]) ∧ ∀ x ∈ g.take i, x ∉ s, ⟨⟨_, rfl⟩, by simp⟩, ?_, ?_⟩
    · rintro i e ρ x hx rfl ⟨⟨o, rfl⟩, hn⟩
      refine ⟨_, rfl, _, rfl, s.map .int, p0.symm, by simp, by simp, ?_⟩
      by_cases hs : x ∈ s
      · have : (g.any fun x => decide (x ∈ s)) = true := List.any_eq_true.mpr ⟨x, mem_get hx, decide_eq_true hs⟩
        rw [this] at h
        simpa [hs] using h
      · simp [hs]
        rw [take_next hx]
        intro y hy
        rcases List.mem_append.mp hy with hy | hy
        · exact hn y hy
        · rw [List.mem_singleton.mp hy]; exact hs
    · rintro ρ ⟨_, hn⟩
      rw [List.take_length] at hn
      have : (g.any fun x => decide (x ∈ s)) = false := by
        rw [Bool.eq_false_iff]
        intro z
        obtain ⟨x, hx, hs⟩ := List.any_eq_true.mp z
        exact hn x hx (of_decide_eq_true hs)
      rwa [this] at h
def po_set_of : List D → (D → Prop) → Prop := fun ds P => ∃ (g : List Int) (k : Int) (d : D), ds = [d, .int k] ∧ (d = intsT g ∨ d = intsL g) ∧ (∀ x ∈ g, 0 ≤ x ∧ x < k) ∧ g.Nodup ∧ g.length < 64 ∧ P (intsT (srt g))
theorem sc_set_of : FnScope ["thing", "limit", "member"] ["thing", "limit"] (defScope s_set_of) := ⟨rfl, rfl, rfl, by decide +kernel, rfl, by decide +kernel, by decide +kernel⟩
theorem ok_set_of (F : FnP K "set_of" "set_of" s_set_of f fd) (Z : Free mg) (U_is_below : Use T.prog T.w K mg base "is_below" 2 ["thing", "limit"] (spD T po_is_below) f0 fd0) : FnOk T.prog T.w K mg base CX0 3 f fd ["thing", "limit"] (spD T po_set_of) := by
  have sc := sc_set_of
  refine okD (T := T) F sc (fun ds P h => ?_) fun cdv A outer s H E hr => ⟨_, (pss_cons (ps_if (pt_not (pt_val (pe_callB (isiT2 (K := K) rfl) (by rfl) Z.isinstance bt_isinstance (pa_cons (pv 0) (pa_cons (pe_tup (pa_cons (pe_bltn (v := .ty "list") (by rfl) Z.list bt_list rfl) (pa_cons (pe_bltn (v := .ty "tuple") (by rfl) Z.tuple bt_tuple rfl) pa_nil))) pa_nil))))) (pss_one (ps_ret pe_non)) pss_nil)
        (pss_cons (ps_for PassesOwn.never rfl (pi_seqK (K := K) rfl (pv 0)) (pg_name (i := 2) sc.nd rfl (by first | exact Or.inl rfl | exact Or.inr rfl)) (pss_one (ps_if (pt_not (pt_val (pe_use U_is_below (hr.mono (by decide)) (by rfl) (pa_cons (pv 2) (pa_cons (pv 1) pa_nil))))) (pss_one (ps_ret pe_non)) pss_nil)))
        (pss_cons (ps_if (pt_cmpR o_lt (pe_lenSetA rfl (by rfl) Z.len (by rfl) Z.set (pv 0)) (pe_callB (c_lenK2 (K := K) rfl) (by rfl) Z.len bt_len (pa_cons (pv 0) pa_nil)) (nomark _)) (pss_one (ps_ret pe_non)) pss_nil)
        (pss_one (ps_ret (pe_callTy (c_tuple2 (K := K) rfl) (by rfl) Z.tuple bt_tuple (pa_cons (pe_callB (c_sort2 (T := T) (K := K) rfl ⟨rfl, rfl⟩ rfl (hu65 hr)) (by rfl) Z.sorted bt_sorted (pa_cons (pv 0) pa_nil)) pa_nil))))))), fun ds P h => ?_⟩
  · obtain ⟨g, k, d, rfl, _⟩ := h; rfl
  · obtain ⟨g, k, d, rfl, p0, p1, p2, p3, h⟩ := h
    refine Left.mk ?_
    simp [argsOf, po_is_below]
    refine ⟨⟨g.map .int, p0.symm⟩, g.map .int, p0.symm, fun i ρ => ∃ o, ρ = [some (.v d), some (.v (.int k)), o], ⟨_, rfl⟩, ?_, ?_⟩
    · rintro i e ρ hx ⟨o, rfl⟩
      obtain ⟨x, hx', rfl⟩ := get_intD hx
      refine ⟨_, rfl, _, rfl, x, k, ⟨rfl, rfl⟩, ?_⟩
      rw [if_pos (p1 x (mem_get hx'))]
      exact ⟨_, rfl⟩
    · rintro ρ ⟨o, rfl⟩
      refine ⟨_, rfl, g, p0.symm, p3, p2, _, rfl, g.map .int, p0.symm, ?_⟩
      rw [List.length_map, if_neg (Nat.lt_irrefl _)]
      refine ⟨_, rfl, g.map .int, p0.symm.elim .inl fun z => .inr (.inl z), sortOk_ints g, fun fs pm pw => ?_⟩
      rw [perm_ints pm pw]
      exact h
def po_mark_of : List D → (D → Prop) → Prop := fun ds P => ∃ (a b k : Int) (g : List Int) (d : D), ds = [.tup [.int a, .int b, d], .int k] ∧ (d = intsT g ∨ d = intsL g) ∧ (0 ≤ a ∧ a < k) ∧ (0 ≤ b ∧ b < k) ∧ a ≠ b ∧ (∀ x ∈ g, 0 ≤ x ∧ x < k) ∧ g ≠ [] ∧ g.Nodup ∧ g.length < 64 ∧ a ∉ g ∧ b ∉ g ∧ P (markD a b (srt g))
theorem sc_mark_of : FnScope ["thing", "pegs", "guard", "start", "stop"] ["thing", "pegs"] (defScope s_mark_of) := ⟨rfl, rfl, rfl, by decide +kernel, rfl, by decide +kernel, by decide +kernel⟩
theorem ok_mark_of (F : FnP K "mark_of" "mark_of" s_mark_of f fd) (Z : Free mg) (U_set_of : Use T.prog T.w K mg base "set_of" 3 ["thing", "limit"] (spD T po_set_of) f0 fd0) (U_is_below : Use T.prog T.w K mg base "is_below" 2 ["thing", "limit"] (spD T po_is_below) f1 fd1) : FnOk T.prog T.w K mg base CX0 4 f fd ["thing", "pegs"] (spD T po_mark_of) := by
  have sc := sc_mark_of
  refine okD (T := T) F sc (fun ds P h => ?_) fun cdv A outer s H E hr => ⟨_, (pss_cons (ps_if (PW.pt (pw_or (pt_not (pt_val (pe_callB (isiT2 (K := K) rfl) (by rfl) Z.isinstance bt_isinstance (pa_cons (pv 0) (pa_cons (pe_tup (pa_cons (pe_bltn (v := .ty "list") (by rfl) Z.list bt_list rfl) (pa_cons (pe_bltn (v := .ty "tuple") (by rfl) Z.tuple bt_tuple rfl) pa_nil))) pa_nil))))) (pw_or1 (pt_cmpR (o_neK (K := K) rfl (hu64 hr)) (pe_callB (c_lenK2 (K := K) rfl) (by rfl) Z.len bt_len (pa_cons (pv 0) pa_nil)) pe_int (nomark _))))) (pss_one (ps_ret pe_non)) pss_nil)
        (pss_cons (ps_asg (pv 0) (pg_tupK (K := K) (n := 3) rfl rfl (pgs_cons (pg_name (i := 3) sc.nd rfl (by first | exact Or.inl rfl | exact Or.inr rfl)) (pgs_cons (pg_name (i := 4) sc.nd rfl (by first | exact Or.inl rfl | exact Or.inr rfl)) (pgs_cons (pg_name (i := 2) sc.nd rfl (by first | exact Or.inl rfl | exact Or.inr rfl)) pgs_nil)))))
        (pss_cons (ps_if (PW.pt (pw_or (pt_not (pt_val (pe_use U_is_below (hr.mono (by decide)) (by rfl) (pa_cons (pv 3) (pa_cons (pv 1) pa_nil))))) (pw_or (pt_not (pt_val (pe_use U_is_below (hr.mono (by decide)) (by rfl) (pa_cons (pv 4) (pa_cons (pv 1) pa_nil))))) (pw_or1 (pt_cmpR (o_eqK (K := K) rfl (hu64 hr)) (pv 3) (pv 4) (nomark _)))))) (pss_one (ps_ret pe_non)) pss_nil)
        (pss_cons (ps_set (i := 2) sc.nd rfl (by first | exact Or.inl rfl | exact Or.inr rfl) (pe_use U_set_of (hr.mono (by decide)) (by rfl) (pa_cons (pv 2) (pa_cons (pv 1) pa_nil))))
        (pss_cons (ps_if (PW.pt (pw_or (pt_cmpR o_isN (pv 2) pe_non (nomark _)) (pw_or (pt_cmpR (o_eqK (K := K) rfl (hu64 hr)) (pe_callB (c_lenK2 (K := K) rfl) (by rfl) Z.len bt_len (pa_cons (pv 2) pa_nil)) pe_int (nomark _)) (pw_or (pt_cmpR (o_inK (K := K) rfl (hu65 hr)) (pv 3) (pv 2) (by rfl)) (pw_or1 (pt_cmpR (o_inK (K := K) rfl (hu65 hr)) (pv 4) (pv 2) (by rfl))))))) (pss_one (ps_ret pe_non)) pss_nil)
        (pss_one (ps_ret (pe_tup (pa_cons (pv 3) (pa_cons (pv 4) (pa_cons (pv 2) pa_nil))))))))))), fun ds P h => ?_⟩
  · obtain ⟨a, b, k, g, d, rfl, _⟩ := h; rfl
  · obtain ⟨a, b, k, g, d, rfl, p0, p1, p2, p3, p4, p5, p6, p7, p8, p9, h⟩ := h
    refine Left.mk ?_
    simp [argsOf, po_is_below, po_set_of, and_assoc, p1, p2, p3]
    have n0 : ¬ srt g = [] := fun e => p5 (List.perm_nil.mp (e ▸ (srt_perm g).symm))
    have n1 : a ∉ srt g := fun z => p8 ((srt_perm g).mem_iff.mp z)
    have n2 : b ∉ srt g := fun z => p9 ((srt_perm g).mem_iff.mp z)
    refine ⟨g, p0, p4, p6, p7, ?_⟩
    simpa [n0, n1, n2] using h
def po_arrow_of : List D → (D → Prop) → Prop := fun ds P => ∃ (a b k c : Int) (g : List Int) (d : D), ds = [.tup [.int a, .int b, d, .int c], .int k] ∧ (d = intsT g ∨ d = intsL g) ∧ (0 ≤ a ∧ a < k) ∧ (0 ≤ b ∧ b < k) ∧ a ≠ b ∧ (∀ x ∈ g, 0 ≤ x ∧ x < k) ∧ g ≠ [] ∧ g.Nodup ∧ g.length < 64 ∧ a ∉ g ∧ b ∉ g ∧ (1 ≤ c ∧ c ≤ 10 ^ 60) ∧ P (.tup [.int a, .int b, intsT (srt g), .int c])
theorem sc_arrow_of : FnScope ["thing", "pegs", "mark", "cost"] ["thing", "pegs"] (defScope s_arrow_of) := ⟨rfl, rfl, rfl, by decide +kernel, rfl, by decide +kernel, by decide +kernel⟩
theorem ok_arrow_of (F : FnP K "arrow_of" "arrow_of" s_arrow_of f fd) (Z : Free mg) {t_MOST_COST : Tok} (m_MOST_COST : mg "MOST_COST" = some (.int (10 ^ 60) t_MOST_COST)) (U_is_integer : Use T.prog T.w K mg base "is_integer" 1 ["thing"] (spD T po_is_integer) f0 fd0) (U_mark_of : Use T.prog T.w K mg base "mark_of" 4 ["thing", "pegs"] (spD T po_mark_of) f1 fd1) : FnOk T.prog T.w K mg base CX0 5 f fd ["thing", "pegs"] (spD T po_arrow_of) := by
  have sc := sc_arrow_of
  refine okD (T := T) F sc (fun ds P h => ?_) fun cdv A outer s H E hr => ⟨_, (pss_cons (ps_if (PW.pt (pw_or (pt_not (pt_val (pe_callB (isiT2 (K := K) rfl) (by rfl) Z.isinstance bt_isinstance (pa_cons (pv 0) (pa_cons (pe_tup (pa_cons (pe_bltn (v := .ty "list") (by rfl) Z.list bt_list rfl) (pa_cons (pe_bltn (v := .ty "tuple") (by rfl) Z.tuple bt_tuple rfl) pa_nil))) pa_nil))))) (pw_or1 (pt_cmpR (o_neK (K := K) rfl (hu64 hr)) (pe_callB (c_lenK2 (K := K) rfl) (by rfl) Z.len bt_len (pa_cons (pv 0) pa_nil)) pe_int (nomark _))))) (pss_one (ps_ret pe_non)) pss_nil)
        (pss_cons (ps_par (by rfl) sc.nd (i := 2) (j := 3) rfl rfl (by decide) rfl rfl (pa_cons (pe_use U_mark_of (hr.mono (by decide)) (by rfl) (pa_cons (pe_slice (sl_anyK (K := K) rfl) (pv 0) po_none (po_some pe_int)) (pa_cons (pv 1) pa_nil))) (pa_cons (pe_ix (ix_seqK (K := K) rfl) (pv 0) pe_int (fun _ _ => rfl)) pa_nil)) (by rfl))
        (pss_cons (ps_if (PW.pt (pw_or (pt_cmpR o_isN (pv 2) pe_non (nomark _)) (pw_or (pt_not (pt_val (pe_use U_is_integer (hr.mono (by decide)) (by rfl) (pa_cons (pv 3) pa_nil)))) (pw_or1 (pt_not (pt_chain o_le o_le pe_int (pv 3) (pe_glob (v := .int (10 ^ 60)) rfl m_MOST_COST ⟨_, rfl⟩))))))) (pss_one (ps_ret pe_non)) pss_nil)
        (pss_one (ps_ret (pe_op (o_plusK (K := K) rfl) (pv 2) (pe_tup (pa_cons (pv 3) pa_nil)))))))), fun ds P h => ?_⟩
  · obtain ⟨a, b, k, c, g, d, rfl, _⟩ := h; rfl
  · obtain ⟨a, b, k, c, g, d, rfl, p0, p1, p2, p3, p4, p5, p6, p7, p8, p9, p10, h⟩ := h
    refine Left.mk ?_
    simp [argsOf, po_is_integer, po_mark_of, and_assoc]
    refine ⟨a, b, k, g, d, rfl, rfl, p0, p1.1, p1.2, p2.1, p2.2, p3, p4, p5, p6, p7, p8, p9, 3, rfl, .int c, rfl, ⟨c, rfl⟩, c, rfl, ?_⟩
    rw [if_pos p10.1]
    refine ⟨c, rfl, ?_⟩
    rw [if_pos (by simpa using p10.2)]
    exact h
def po_check_names : List D → (D → Prop) → Prop := fun ds P => ∃ (n : List Int) (k : Int) (d : D), ds = [d, .int k] ∧ (d = intsT n ∨ d = intsL n) ∧ (∀ x ∈ n, 0 ≤ x ∧ x < k) ∧ n.Nodup ∧ (n.length : Int) = k ∧ P (intsT n)
theorem sc_check_names : FnScope ["names", "pegs", "peg", "name"] ["names", "pegs"] (defScope s_check_names) := ⟨rfl, rfl, rfl, by decide +kernel, rfl, by decide +kernel, by decide +kernel⟩
theorem ok_check_names (F : FnP K "check_names" "check_names" s_check_names f fd) (Z : Free mg) (U_is_below : Use T.prog T.w K mg base "is_below" 2 ["thing", "limit"] (spD T po_is_below) f0 fd0) : FnOk T.prog T.w K mg base CX0 3 f fd ["names", "pegs"] (spD T po_check_names) := by
  have sc := sc_check_names
  refine okD (T := T) F sc (fun ds P h => ?_) fun cdv A outer s H E hr => ⟨_, (pss_cons (ps_if (PW.pt (pw_or (pt_not (pt_val (pe_callB (isiT2 (K := K) rfl) (by rfl) Z.isinstance bt_isinstance (pa_cons (pv 0) (pa_cons (pe_tup (pa_cons (pe_bltn (v := .ty "list") (by rfl) Z.list bt_list rfl) (pa_cons (pe_bltn (v := .ty "tuple") (by rfl) Z.tuple bt_tuple rfl) pa_nil))) pa_nil))))) (pw_or1 (pt_cmpR (o_neK (K := K) rfl (hu64 hr)) (pe_callB (c_lenK2 (K := K) rfl) (by rfl) Z.len bt_len (pa_cons (pv 0) pa_nil)) (pv 1) (nomark _))))) (pss_one ps_never) pss_nil)
        (pss_cons (ps_for PassesOwn.never rfl (pi_enumA (by rfl) Z.enumerate (pa_cons (pv 0) pa_nil)) (pg_tupK (K := K) (n := 2) rfl rfl (pgs_cons (pg_name (i := 2) sc.nd rfl (by first | exact Or.inl rfl | exact Or.inr rfl)) (pgs_cons (pg_name (i := 3) sc.nd rfl (by first | exact Or.inl rfl | exact Or.inr rfl)) pgs_nil))) (pss_one (ps_if (PW.pt (pw_or (pt_not (pt_val (pe_use U_is_below (hr.mono (by decide)) (by rfl) (pa_cons (pv 3) (pa_cons (pv 1) pa_nil))))) (pw_or1 (pt_cmpR (o_inK (K := K) rfl (hu65 hr)) (pv 3) (pe_slice (sl_anyK (K := K) rfl) (pv 0) po_none (po_some (pv 2))) (by rfl))))) (pss_one ps_never) pss_nil)))
        (pss_one (ps_ret (pe_callTy (c_tuple2 (K := K) rfl) (by rfl) Z.tuple bt_tuple (pa_cons (pv 0) pa_nil)))))), fun ds P h => ?_⟩
  · obtain ⟨n, k, d, rfl, _⟩ := h; rfl
  · obtain ⟨n, k, d, rfl, p0, p1, p2, p3, h⟩ := h
    refine Left.mk ?_
    simp [argsOf, po_is_below, and_assoc]
    refine ⟨⟨_, p0.symm⟩, n.map .int, p0.symm, by simpa using p3, n.map .int, p0.symm, fun i ρ => ∃ o1 o2, ρ = [some (.v d), some (.v (.int k)), o1, o2], ⟨_, _, rfl⟩, ?_, ?_⟩
    · rintro i e ρ hx ⟨o1, o2, rfl⟩
      obtain ⟨y, hy, rfl⟩ := enumD_some hx
      obtain ⟨x, hx', rfl⟩ := get_intD hy
      refine ⟨_, rfl, rfl, _, _, rfl, _, _, rfl, rfl, _, rfl, _, rfl, x, rfl, k, rfl, (p1 x (mem_get hx')).1, (p1 x (mem_get hx')).2, ?_⟩
      have hi : i ≤ (n.map D.int).length := by
        have := (List.getElem?_eq_some_iff.mp hy).1
        omega
      have nx : ¬ D.int x ∈ (n.map D.int).take i := nodup_take (List.Pairwise.map _ (fun a b h e => h (D.int.inj e)) p2) hy
      have fx : D.fitA ((n.map D.int).take i) 50 = true := fitA_of fun e he => by
        obtain ⟨y, _, rfl⟩ := List.mem_map.mp (List.mem_of_mem_take he)
        simp
      refine ⟨_, rfl, _, rfl, _, rfl, _, rfl, ?_⟩
      rcases p0 with rfl | rfl
      · exact .inr ⟨_, rfl, by simp, by rw [cut_pre hi]; exact fx, by rw [cut_pre hi]; exact nx, ⟨_, _, rfl⟩⟩
      · exact .inl ⟨_, rfl, by simp, by rw [cut_pre hi]; exact fx, by rw [cut_pre hi]; exact nx, ⟨_, _, rfl⟩⟩
    · rintro ρ ⟨o1, o2, rfl⟩
      exact ⟨_, rfl, n.map .int, p0.symm, h⟩
end
end
end DL
/-! M2: raw arrows, marks, what is looked up -/
namespace DL
open PySem L2 PyProof.Rows
noncomputable section
structure Raw where
  a : Int
  b : Int
  g : List Int
  l : Bool
  c : Int
def Raw.gd (r : Raw) : D := if r.l then intsL r.g else intsT r.g
def Raw.d (r : Raw) : D := .tup [.int r.a, .int r.b, r.gd, .int r.c]
def Raw.ar (r : Raw) : Ar := ⟨r.a, r.b, srt r.g, r.c⟩
theorem Raw.gd_or (r : Raw) : r.gd = intsT r.g ∨ r.gd = intsL r.g := by
  unfold Raw.gd
  split
  · exact .inr rfl
  · exact .inl rfl
structure RawOk (k : Int) (r : Raw) : Prop where
  a : 0 ≤ r.a ∧ r.a < k
  b : 0 ≤ r.b ∧ r.b < k
  ab : r.a ≠ r.b
  rg : ∀ x ∈ r.g, 0 ≤ x ∧ x < k
  ne : r.g ≠ []
  nd : r.g.Nodup
  few : r.g.length < 64
  ga : r.a ∉ r.g
  gb : r.b ∉ r.g
  c : 1 ≤ r.c ∧ r.c ≤ 10 ^ 60
def Ar.md (r : Ar) : D := markD r.a r.b r.g
theorem intD_inj {a b : List Int} (h : a.map D.int = b.map D.int) : a = b := List.map_inj_right (fun x y e => D.int.inj e) |>.mp h
theorem md_mark {r s : Ar} : r.md = s.md ↔ r.mark = s.mark := by
  unfold Ar.md Ar.mark markD
  constructor
  · intro h
    simp only [D.tup.injEq, List.cons.injEq, D.int.injEq, and_true] at h
    obtain ⟨h1, h2, h3⟩ := h
    rw [h1, h2, intD_inj h3]
  · intro h
    simp only [Prod.mk.injEq] at h
    rw [h.1, h.2.1, h.2.2]
theorem pyA_ints (ns : List Int) : D.pyA (ns.map D.int) = ns.map PyData.int := by
  induction ns with
  | nil => rfl
  | cons n ns ih => simp [D.pyA, D.py, ih]
theorem alike_tupI (a b : List Int) : PySem.W.alike (intsT a).py (intsT b).py = true := by
  simp only [D.py, pyA_ints]
  simp [PySem.W.alike, PySem.W.alike_ints]
theorem alike_md (r s : Ar) : PySem.W.alike r.md.py s.md.py = true := by
  have := alike_tupI r.g s.g
  simp only [D.py, PySem.W.alike] at this
  simp [Ar.md, D.py, D.pyA, PySem.W.alike, PySem.W.alikeAll, this]
theorem alike_ard (r s : Ar) : PySem.W.alike r.d.py s.d.py = true := by
  have := alike_tupI r.g s.g
  simp only [D.py, PySem.W.alike] at this
  simp [D.py, D.pyA, PySem.W.alike, PySem.W.alikeAll, this]
theorem sortOk_md (l : List Ar) : SortOk (l.map Ar.md) := by
  refine ⟨fun d hd e he => ?_, fun d hd => ?_, .inl fun d hd => ?_⟩
  · obtain ⟨r, _, rfl⟩ := List.mem_map.mp hd
    obtain ⟨s, _, rfl⟩ := List.mem_map.mp he
    exact alike_md r s
  · obtain ⟨r, _, rfl⟩ := List.mem_map.mp hd
    simp [Ar.md]
  · obtain ⟨r, _, rfl⟩ := List.mem_map.mp hd
    exact ⟨_, _, rfl⟩
theorem sortOk_ard (l : List Ar) : SortOk (l.map Ar.d) := by
  refine ⟨fun d hd e he => ?_, fun d hd => ?_, .inl fun d hd => ?_⟩
  · obtain ⟨r, _, rfl⟩ := List.mem_map.mp hd
    obtain ⟨s, _, rfl⟩ := List.mem_map.mp he
    exact alike_ard r s
  · obtain ⟨r, _, rfl⟩ := List.mem_map.mp hd
    simp
  · obtain ⟨r, _, rfl⟩ := List.mem_map.mp hd
    exact ⟨_, _, rfl⟩
@[simp] theorem key_md (r : Ar) : r.md.key = true := by simp [Ar.md]
theorem lk_map {α : Type} {f g : α → D} : ∀ {xs : List α} {x : α}, (xs.map f).Nodup → x ∈ xs → lkD (xs.map f) (xs.map g) (f x) = some (g x)
  | y :: ys, x, hn, hx => by
    simp only [List.map_cons, lkD]
    rw [List.map_cons, List.nodup_cons] at hn
    rcases List.mem_cons.mp hx with rfl | hx
    · rw [if_pos rfl]
    · rw [if_neg, lk_map hn.2 hx]
      intro e
      exact hn.1 (e ▸ List.mem_map.mpr ⟨x, hx, rfl⟩)
theorem get_map {α : Type} {f : α → D} {xs : List α} {i : Nat} {d : D} (h : (xs.map f)[i]? = some d) : ∃ x, xs[i]? = some x ∧ d = f x := by
  rw [List.getElem?_map] at h
  obtain ⟨x, h1, h2⟩ := Option.map_eq_some_iff.mp h
  exact ⟨x, h1, h2.symm⟩
theorem lk_ne {x y : Str} (h : (x == y) = false) : ¬ x = y := beq_eq_false_iff_ne.mp h
theorem lkp2 {a b : D} : List.lookup ("_costs" : Str) [("pegs", a), ("_costs", b)] = some b := by simp [List.lookup, lk1, lkr]
theorem lkp1 {a : D} {r : List (Str × D)} : List.lookup ("pegs" : Str) (("pegs", a) :: r) = some a := by simp [List.lookup, lkr]
@[simp] theorem cut43 (a b c d : D) : List.take (HT.sIx 4 4 (some 3) - HT.sIx 4 0 none) (List.drop (HT.sIx 4 0 none) [a, b, c, d]) = [a, b, c] := rfl
def Ar.turn (r : Ar) : Ar := ⟨r.b, r.a, r.g, r.c⟩
/-- the new name of x -/
def nm (n : List Int) (x : Int) : Int := n.getD x.toNat 0
def Ar.ren (n : List Int) (r : Ar) : Ar := ⟨nm n r.a, nm n r.b, srt (r.g.map (nm n)), r.c⟩
abbrev COk (r : Ar) : Prop := 1 ≤ r.c ∧ r.c ≤ 10 ^ 60
theorem lk_in {f : Ar → D} : ∀ {l : List Ar} {m z : D}, lkD (l.map Ar.md) (l.map f) m = some z → ∃ s ∈ l, s.md = m ∧ z = f s
  | s :: l, m, z, h => by
    simp only [List.map_cons, lkD] at h
    split at h
    · rename_i e; exact ⟨s, List.mem_cons_self, e, (Option.some.inj h).symm⟩
    · obtain ⟨t, h1, h2⟩ := lk_in h; exact ⟨t, List.mem_cons_of_mem _ h1, h2⟩
theorem lk_cost {l : List Ar} {r : Ar} (hl : ∀ s ∈ l, COk s) (hr : COk r) : ∃ c, (lkD (l.map Ar.md) (l.map fun s => .int s.c) r.md).getD (.int r.c) = .int c ∧ 1 ≤ c ∧ c ≤ 10 ^ 60 := by
  cases h : lkD (l.map Ar.md) (l.map fun s => .int s.c) r.md with
  | none => exact ⟨r.c, rfl, hr⟩
  | some z =>
    obtain ⟨s, h1, h2, h3⟩ := lk_in h
    exact ⟨s.c, by rw [h3]; rfl, hl s h1⟩
theorem upD_map {m : D} {c : Int} : ∀ {l : List Ar}, upD (l.map Ar.md) (l.map fun s => .int s.c) m (.int c) = (l.map fun s => if s.md = m then { s with c := c } else s).map fun s => D.int s.c
  | [] => rfl
  | s :: l => by
    simp only [List.map_cons, upD]
    rw [upD_map]
    split <;> simp
theorem put_cost {l : List Ar} {r : Ar} {c : Int} (hn : (l.map Ar.md).Nodup) (hl : ∀ s ∈ l, COk s) (hc : 1 ≤ c ∧ c ≤ 10 ^ 60) : ∃ l' : List Ar, putK1 (l.map Ar.md) r.md = l'.map Ar.md ∧ putV1 (l.map Ar.md) (l.map fun s => .int s.c) r.md (.int c) = (l'.map fun s => .int s.c) ∧ (l'.map Ar.md).Nodup ∧
    (∀ m, m ∈ l'.map Ar.md ↔ m ∈ l.map Ar.md ∨ m = r.md) ∧ (∀ s ∈ l', COk s) ∧ l'.length ≤ l.length + 1 := by
  by_cases h : r.md ∈ l.map Ar.md
  · have e : (l.map fun s => if s.md = r.md then { s with c := c } else s).map Ar.md = l.map Ar.md := by
      rw [List.map_map]
      refine List.map_congr_left fun s _ => ?_
      show Ar.md (if s.md = r.md then _ else s) = s.md
      split <;> rfl
    refine ⟨l.map fun s => if s.md = r.md then { s with c := c } else s, by rw [putK1, if_pos h, e], by rw [putV1, if_pos h, upD_map], by rw [e]; exact hn, fun m => ?_, fun s hs => ?_, by simp⟩
    · rw [e]
      exact ⟨.inl, fun q => q.elim id fun q => q ▸ h⟩
    · obtain ⟨t, ht, rfl⟩ := List.mem_map.mp hs
      split
      · exact hc
      · exact hl t ht
  · refine ⟨l ++ [⟨r.a, r.b, r.g, c⟩], by rw [putK1, if_neg h, List.map_append]; rfl, by rw [putV1, if_neg h, List.map_append]; rfl, ?_, fun m => ?_, fun s hs => ?_, by simp⟩
    · have := putK1_nodup (x := r.md) hn
      rw [putK1, if_neg h] at this
      rw [List.map_append]
      exact this
    · rw [List.map_append, List.mem_append]
      simp [Ar.md]
    · rcases List.mem_append.mp hs with hs | hs
      · exact hl s hs
      · rw [List.mem_singleton.mp hs]; exact hc
theorem min_ok {a c : Int} (h1 : 1 ≤ a ∧ a ≤ 10 ^ 60) (h2 : 1 ≤ c ∧ c ≤ 10 ^ 60) : 1 ≤ (if c < a then c else a) ∧ (if c < a then c else a) ≤ 10 ^ 60 := by
  split
  · exact h2
  · exact h1
end
end DL
/-! M3: arrows turned, renamed -/
namespace DL
open PySem L2 PyProof.Rows
noncomputable section
def Ar.rawT (r : Ar) : Raw := ⟨r.b, r.a, r.g, false, r.c⟩
def Ar.rawR (n : List Int) (r : Ar) : Raw := ⟨nm n r.a, nm n r.b, r.g.map (nm n), true, r.c⟩
theorem rawT_ok {k : Int} {r : Ar} (h : ArOk k r) : RawOk k r.rawT :=
  ⟨h.b, h.a, fun e => h.ab e.symm, h.g.rg, h.g.ne, lt_nodup h.g.up, Nat.lt_of_le_of_lt h.g.few (by decide), h.gb, h.ga, h.c⟩
theorem rawT_ar1 {k : Int} {r : Ar} (h : ArOk k r) : r.rawT.ar = r.turn := by
  unfold Ar.rawT Raw.ar Ar.turn
  rw [srt_id h.g.up]
theorem rawT_ar {k : Int} {ar : List Ar} (h : ∀ r ∈ ar, ArOk k r) : ar.map (Raw.ar ∘ Ar.rawT) = ar.map Ar.turn := List.map_congr_left fun r hr => rawT_ar1 (h r hr)
theorem md_turn {r s : Ar} (h : r.turn.md = s.turn.md) : r.md = s.md := by
  rw [md_mark] at h ⊢
  simp only [Ar.mark, Ar.turn, Prod.mk.injEq] at h ⊢
  exact ⟨h.2.1, h.1, h.2.2⟩
theorem nodup_of_inj {α : Type} {f g : α → D} {l : List α} (h : (l.map f).Nodup) (hi : ∀ x ∈ l, ∀ y ∈ l, g x = g y → f x = f y) : (l.map g).Nodup := by
  rw [List.Nodup, List.pairwise_map] at h ⊢
  exact List.Pairwise.imp_of_mem (fun hx hy hne e => hne (hi _ hx _ hy e)) h
theorem rawT_nodup {k : Int} {ar : List Ar} (h : ∀ r ∈ ar, ArOk k r) (hn : (ar.map Ar.md).Nodup) : (ar.map ((fun r => r.ar.md) ∘ Ar.rawT)).Nodup :=
  nodup_of_inj hn fun x hx y hy e => by
    have e : x.rawT.ar.md = y.rawT.ar.md := e
    rw [rawT_ar1 (h x hx), rawT_ar1 (h y hy)] at e
    exact md_turn e
/-- names: each of 0 .. k - 1 once -/
structure NmOk (k : Int) (n : List Int) : Prop where
  rg : ∀ x ∈ n, 0 ≤ x ∧ x < k
  nd : n.Nodup
  len : (n.length : Int) = k
theorem nm_get {k : Int} {n : List Int} (h : NmOk k n) {x : Int} (hx : 0 ≤ x ∧ x < k) : n[x.toNat]? = some (nm n x) := by
  have hl := h.len
  have : x.toNat < n.length := by omega
  unfold nm
  rw [List.getD_eq_getElem?_getD, List.getElem?_eq_getElem this]
  rfl
theorem nm_rg {k : Int} {n : List Int} (h : NmOk k n) {x : Int} (hx : 0 ≤ x ∧ x < k) : 0 ≤ nm n x ∧ nm n x < k := h.rg _ (mem_get (nm_get h hx))
theorem nm_inj {k : Int} {n : List Int} (h : NmOk k n) {x y : Int} (hx : 0 ≤ x ∧ x < k) (hy : 0 ≤ y ∧ y < k) (e : nm n x = nm n y) : x = y := by
  have e1 := nm_get h hx
  have e2 := nm_get h hy
  rw [e] at e1
  have hl := h.len
  have := (List.getElem?_inj (i := x.toNat) (j := y.toNat) (by omega) h.nd).mp (e1.trans e2.symm)
  omega
theorem map_nodup {α β : Type} {f : α → β} {l : List α} (hn : l.Nodup) (hi : ∀ x ∈ l, ∀ y ∈ l, f x = f y → x = y) : (l.map f).Nodup := by
  rw [List.Nodup, List.pairwise_map]
  exact List.Pairwise.imp_of_mem (fun hx hy hne e => hne (hi _ hx _ hy e)) hn
theorem nm_mem {k : Int} {n : List Int} (h : NmOk k n) {g : List Int} (hg : ∀ x ∈ g, 0 ≤ x ∧ x < k) {x : Int} (hx : 0 ≤ x ∧ x < k) : nm n x ∈ g.map (nm n) ↔ x ∈ g := by
  constructor
  · intro z
    obtain ⟨y, hy, e⟩ := List.mem_map.mp z
    exact nm_inj h (hg y hy) hx e ▸ hy
  · exact fun z => List.mem_map.mpr ⟨x, z, rfl⟩
theorem rawR_ok {k : Int} {n : List Int} (hn : NmOk k n) {r : Ar} (h : ArOk k r) : RawOk k (r.rawR n) where
  a := nm_rg hn h.a
  b := nm_rg hn h.b
  ab := fun e => h.ab (nm_inj hn h.a h.b e)
  rg := fun x hx => by
    obtain ⟨y, hy, rfl⟩ := List.mem_map.mp hx
    exact nm_rg hn (h.g.rg y hy)
  ne := fun e => h.g.ne (List.map_eq_nil_iff.mp e)
  nd := map_nodup (lt_nodup h.g.up) fun x hx y hy e => nm_inj hn (h.g.rg x hx) (h.g.rg y hy) e
  few := by
    show (r.g.map (nm n)).length < 64
    rw [List.length_map]
    exact Nat.lt_of_le_of_lt h.g.few (by decide)
  ga := fun z => h.ga ((nm_mem hn h.g.rg h.a).mp z)
  gb := fun z => h.gb ((nm_mem hn h.g.rg h.b).mp z)
  c := h.c
theorem map_nm_inj {k : Int} {n : List Int} (hn : NmOk k n) : ∀ {g g' : List Int}, (∀ x ∈ g, 0 ≤ x ∧ x < k) → (∀ x ∈ g', 0 ≤ x ∧ x < k) → g.Pairwise (· < ·) → g'.Pairwise (· < ·) → srt (g.map (nm n)) = srt (g'.map (nm n)) → g = g' := fun {g g'} h1 h2 u1 u2 e => by
  have pm : (g.map (nm n)).Perm (g'.map (nm n)) := (srt_perm _).symm.trans (e ▸ srt_perm _)
  refine lt_unique u1 u2 fun x => ⟨fun hx => ?_, fun hx => ?_⟩
  · have := pm.mem_iff.mp (List.mem_map.mpr ⟨x, hx, rfl⟩)
    exact (nm_mem hn h2 (h1 x hx)).mp this
  · have := pm.mem_iff.mpr (List.mem_map.mpr ⟨x, hx, rfl⟩)
    exact (nm_mem hn h1 (h2 x hx)).mp this
theorem md_ren {k : Int} {n : List Int} (hn : NmOk k n) {r s : Ar} (h1 : ArOk k r) (h2 : ArOk k s) (h : (r.ren n).md = (s.ren n).md) : r.md = s.md := by
  rw [md_mark] at h ⊢
  simp only [Ar.mark, Ar.ren, Prod.mk.injEq] at h ⊢
  exact ⟨nm_inj hn h1.a h2.a h.1, nm_inj hn h1.b h2.b h.2.1, map_nm_inj hn h1.g.rg h2.g.rg h1.g.up h2.g.up h.2.2⟩
theorem rawR_nodup {k : Int} {n : List Int} (hn : NmOk k n) {ar : List Ar} (h : ∀ r ∈ ar, ArOk k r) (hd : (ar.map Ar.md).Nodup) : (ar.map ((fun r => r.ar.md) ∘ Ar.rawR n)).Nodup :=
  nodup_of_inj hd fun x hx y hy e => md_ren hn (h x hx) (h y hy) e
theorem turn_ok {k : Int} {r : Ar} (h : ArOk k r) : ArOk k r.turn := ⟨h.b, h.a, fun e => h.ab e.symm, h.g, h.gb, h.ga, h.c⟩
theorem ren_ok {k : Int} {n : List Int} (hn : NmOk k n) {r : Ar} (h : ArOk k r) : ArOk k (r.ren n) := by
  have q := rawR_ok hn h
  have pm := srt_perm (r.g.map (nm n))
  refine ⟨q.a, q.b, q.ab, ⟨fun e => q.ne (List.perm_nil.mp ((show srt (r.g.map (nm n)) = [] from e) ▸ pm.symm)), srt_lt q.nd, fun x hx => q.rg x (pm.mem_iff.mp hx), ?_⟩, fun z => q.ga (pm.mem_iff.mp z), fun z => q.gb (pm.mem_iff.mp z), q.c⟩
  show (srt (r.g.map (nm n))).length ≤ 5
  rw [pm.length_eq, List.length_map]
  exact h.g.few
abbrev webD (k : Int) (ar : List Ar) : D := .web k (ar.map Ar.d)
abbrev gameD (k : Int) (ws : List (List Ar)) : D := .game k (ws.map (webD k))
def Ar.raw0 (r : Ar) : Raw := ⟨r.a, r.b, r.g, false, r.c⟩
theorem raw0_ok {k : Int} {r : Ar} (h : ArOk k r) : RawOk k r.raw0 := ⟨h.a, h.b, h.ab, h.g.rg, h.g.ne, lt_nodup h.g.up, Nat.lt_of_le_of_lt h.g.few (by decide), h.ga, h.gb, h.c⟩
theorem raw0_ar1 {k : Int} {r : Ar} (h : ArOk k r) : r.raw0.ar = r := by
  unfold Ar.raw0 Raw.ar
  rw [srt_id h.g.up]
theorem raw0_ar {k : Int} {ar : List Ar} (h : ∀ r ∈ ar, ArOk k r) : ar.map (Raw.ar ∘ Ar.raw0) = ar := by
  have := List.map_congr_left (f := Raw.ar ∘ Ar.raw0) (g := id) fun r hr => raw0_ar1 (h r hr)
  rwa [List.map_id] at this
theorem raw0_nodup {k : Int} {ar : List Ar} (h : ∀ r ∈ ar, ArOk k r) (hn : (ar.map Ar.md).Nodup) : (ar.map ((fun r => r.ar.md) ∘ Ar.raw0)).Nodup :=
  nodup_of_inj hn fun x hx y hy e => by
    have e : x.raw0.ar.md = y.raw0.ar.md := e
    rw [raw0_ar1 (h x hx), raw0_ar1 (h y hy)] at e
    exact e
theorem arOk_md {k : Int} {r s : Ar} (h : ArOk k s) (e : r.md = s.md) (c : COk r) : ArOk k r := by
  rw [md_mark] at e
  simp only [Ar.mark, Prod.mk.injEq] at e
  obtain ⟨e1, e2, e3⟩ := e
  exact ⟨e1 ▸ h.a, e2 ▸ h.b, by rw [e1, e2]; exact h.ab, e3 ▸ h.g, by rw [e1, e3]; exact h.ga, by rw [e2, e3]; exact h.gb, c⟩
theorem lkpw {a b : D} : List.lookup ("webs" : Str) [("pegs", a), ("webs", b)] = some b := by simp [List.lookup, lk4, lkr]
end
end DL
namespace DL
open PySem L2 PyProof.Rows
noncomputable section
section
variable {T : Tx} {K : PySem.W.Frag} {mg : Str → Option Value} {base : Heap} {f f0 f1 f2 f3 f4 f5 f6 f7 : Addr} {fd fd0 fd1 fd2 fd3 fd4 fd5 fd6 fd7 : FuncData} [ci : CI T K]
def po_costs_of : List D → (D → Prop) → Prop := fun ds P => ∃ (k : Int) (rs : List Raw), ds = [.lst (rs.map Raw.d), .int k] ∧ (∀ r ∈ rs, RawOk k r) ∧ (rs.map fun r => r.ar.md).Nodup ∧ rs.length ≤ 1000 ∧ P (.dct (rs.map fun r => r.ar.md) (rs.map fun r => .int r.c))
theorem sc_costs_of : FnScope ["arrows", "pegs", "costs", "place", "thing", "arrow"] ["arrows", "pegs"] (defScope s_costs_of) := ⟨rfl, rfl, rfl, by decide +kernel, rfl, by decide +kernel, by decide +kernel⟩
theorem ok_costs_of (F : FnP K "costs_of" "costs_of" s_costs_of f fd) (Z : Free mg) (U_arrow_of : Use T.prog T.w K mg base "arrow_of" 5 ["thing", "pegs"] (spD T po_arrow_of) f0 fd0) : FnOk T.prog T.w K mg base CX0 6 f fd ["arrows", "pegs"] (spD T po_costs_of) := by
  have sc := sc_costs_of
  refine okD (T := T) F sc (fun ds P h => ?_) fun cdv A outer s H E hr => ⟨_, (pss_cons (ps_if (pt_not (pt_val (pe_callB (isiT2 (K := K) rfl) (by rfl) Z.isinstance bt_isinstance (pa_cons (pv 0) (pa_cons (pe_tup (pa_cons (pe_bltn (v := .ty "list") (by rfl) Z.list bt_list rfl) (pa_cons (pe_bltn (v := .ty "tuple") (by rfl) Z.tuple bt_tuple rfl) pa_nil))) pa_nil))))) (pss_one ps_never) pss_nil)
        (pss_cons (ps_own (ps_set (i := 2) sc.nd rfl (by first | exact Or.inl rfl | exact Or.inr rfl) (pe_newN (T := T))))
        (pss_cons (ps_for PassesOwn.never rfl (pi_enumA (by rfl) Z.enumerate (pa_cons (pv 0) pa_nil)) (pg_tupK (K := K) (n := 2) rfl rfl (pgs_cons (pg_name (i := 3) sc.nd rfl (by first | exact Or.inl rfl | exact Or.inr rfl)) (pgs_cons (pg_name (i := 4) sc.nd rfl (by first | exact Or.inl rfl | exact Or.inr rfl)) pgs_nil))) (pss_cons (ps_set (i := 5) sc.nd rfl (by first | exact Or.inl rfl | exact Or.inr rfl) (pe_use U_arrow_of (hr.mono (by decide)) (by rfl) (pa_cons (pv 4) (pa_cons (pv 1) pa_nil))))
        (pss_cons (ps_if (pt_borD 2 (PW.pt (pw_or (pt_cmpR o_isN (pv 5) pe_non (nomark _)) (pw_or1 (pt_cmpR (o_inN (T := T) ⟨rfl, rfl⟩ (hu64 hr)) (pe_slice (sl_anyK (K := K) rfl) (pv 5) po_none (po_some pe_int)) (pv 2) (by rfl)))))) (pss_one ps_never) pss_nil)
        (pss_one (ps_asg (pe_ix (ix_seqK (K := K) rfl) (pv 5) pe_int (fun _ _ => rfl)) (pg_sub (pv 2) (pe_slice (sl_anyK (K := K) rfl) (pv 5) po_none (po_some pe_int)) (set_dictN (T := T) ⟨rfl, rfl⟩ (hu64 hr))))))))
        (pss_one (ps_ret (pvd 2 (pv 2))))))), fun ds P h => ?_⟩
  · obtain ⟨k, rs, rfl, _⟩ := h; rfl
  · obtain ⟨k, rs, rfl, p0, p1, p2, h⟩ := h
    refine Left.mk ?_
    simp [argsOf, po_arrow_of, and_assoc]
    refine ⟨fun i ρ => ∃ o3 o4 o5, ρ = [some (.v (.lst (rs.map Raw.d))), some (.v (.int k)), some (.od ((rs.take i).map fun r => r.ar.md) ((rs.take i).map fun r => .int r.c)), o3, o4, o5], ⟨_, _, _, rfl⟩, ?_, ?_⟩
    · rintro i e ρ hx ⟨o3, o4, o5, rfl⟩
      obtain ⟨y, hy, rfl⟩ := enumD_some hx
      obtain ⟨r, hr', rfl⟩ := get_map hy
      have ok := p0 r (mem_get hr')
      have hm : ¬ r.ar.md ∈ (rs.take i).map fun r => r.ar.md := by
        rw [List.map_take]
        exact nodup_take p1 (by rw [List.getElem?_map, hr']; rfl)
      have hl : (rs.take i).length < 10000 := by rw [List.length_take]; omega
      have e1 : ((rs.take (i + 1)).map fun r => r.ar.md) = putK1 ((rs.take i).map fun r => r.ar.md) r.ar.md := by
        rw [take_next hr', putK1, if_neg hm, List.map_append]; rfl
      have e2 : ((rs.take (i + 1)).map fun r => D.int r.c) = putV1 ((rs.take i).map fun r => r.ar.md) ((rs.take i).map fun r => D.int r.c) r.ar.md (.int r.c) := by
        rw [take_next hr', putV1, if_neg hm, List.map_append]; rfl
      simp [and_assoc]
      simp only [List.map_take] at hm e1 e2
      refine ⟨r.a, r.b, k, r.c, r.g, r.gd, rfl, rfl, r.gd_or, ok.a.1, ok.a.2, ok.b.1, ok.b.2, ok.ab, ok.rg, ok.ne, ok.nd, ok.few, ok.ga, ok.gb, ok.c.1, by simpa using ok.c.2, hm, 3, rfl, .int r.c, rfl, by omega, ?_, ?_⟩
      · exact e1.symm
      · exact e2.symm
    · rintro ρ ⟨o3, o4, o5, rfl⟩
      refine ⟨_, _, rfl, ?_⟩
      rw [List.take_length]
      exact h
def po_Web___init__ : List D → (D → Prop) → Prop := fun ds P => ∃ (k : Int) (rs : List Raw), ds = [.int k, .lst (rs.map Raw.d)] ∧ (3 ≤ k ∧ k ≤ 5) ∧ (∀ r ∈ rs, RawOk k r) ∧ (rs.map fun r => r.ar.md).Nodup ∧ rs.length ≤ 1000 ∧ (∀ ar : List Ar, ar.Perm (rs.map Raw.ar) → P (.web k (ar.map Ar.d)))
theorem sc_Web___init__ : FnScope ["self", "pegs", "arrows", "mark"] ["self", "pegs", "arrows"] (defScope s_Web___init__) := ⟨rfl, rfl, rfl, by decide +kernel, rfl, by decide +kernel, by decide +kernel⟩
theorem ok_Web___init__ (F : FnP K "__init__" "Web.__init__" s_Web___init__ f fd) (Z : Free mg) (U_costs_of : Use T.prog T.w K mg base "costs_of" 6 ["arrows", "pegs"] (spD T po_costs_of) f0 fd0) (U_check_pegs : Use T.prog T.w K mg base "check_pegs" 2 ["pegs"] (spD T po_check_pegs) f1 fd1) : FnOk T.prog T.w K mg base CX0 7 f fd ["self", "pegs", "arrows"] (spI T T.CW po_Web___init__) := by
  have sc := sc_Web___init__
  refine okI (T := T) F sc (fun ds P h => ?_) fun cdv A outer s H E hr => ⟨_, (pss_cons (ps_fld (pv 0) (pe_use U_check_pegs (hr.mono (by decide)) (by rfl) (pa_cons (pv 1) pa_nil)) (by rfl))
        (pss_cons (ps_fld (pv 0) (pe_use U_costs_of (hr.mono (by decide)) (by rfl) (pa_cons (pv 2) (pa_cons (pe_fldSK (K := K) 0 rfl (pv 0) rfl) pa_nil))) (by rfl))
        (pss_one (ps_fld (pv 0) (pe_callTy (c_tuple2 (K := K) rfl) (by rfl) Z.tuple bt_tuple (pa_cons (pe_lc (own := [("mark", 3)]) rfl sc.nd (pi_seqK (K := K) rfl (pe_callB (c_sort2 (T := T) (K := K) rfl ⟨rfl, rfl⟩ rfl (hu65 hr)) (by rfl) Z.sorted bt_sorted (pa_cons (pe_fldSK (K := K) 0 rfl (pv 0) rfl) pa_nil))) (blkOk_by (N := ["self", "pegs", "arrows", "mark"]) (sc := defScope s_Web___init__) (by decide +kernel)) (fun _ _ _ _ _ => (pg_name (i := 3) sc.nd rfl (by first | exact Or.inl rfl | exact Or.inr rfl))) (fun _ _ _ _ _ => pts_nil) (fun _ _ _ _ _ => (pe_op (o_plusK (K := K) rfl) (pv 3) (pe_tup (pa_cons (pe_ix (ix_dictN (T := T) ⟨rfl, rfl⟩ (hu64 hr)) (pe_fldSK (K := K) 0 rfl (pv 0) rfl) (pv 3) (fun _ _ => rfl)) pa_nil))))) pa_nil)) (by rfl))))), fun ai ds P h => ?_⟩
  · obtain ⟨k, rs, rfl, _⟩ := h; rfl
  · obtain ⟨k, rs, rfl, p0, p1, p2, p3, h⟩ := h
    refine Left.mk ?_
    simp [argsOf, po_check_pegs, po_costs_of, and_assoc]
    refine ⟨p0.1, p0.2, ci.cW, ci.nW _ (.inl rfl), ci.cW, ci.nW _ (.inl rfl), k, rs, rfl, rfl, p1, p2, p3, ci.cW, ci.nW _ (.inr (.inl rfl)), lk_ne lk1, ci.cW, ci.nW _ (.inr (.inl rfl)), _, lkp2, _, .inr (.inr ⟨_, rfl⟩), ?_, ?_⟩
    · have := sortOk_md (rs.map Raw.ar)
      rwa [List.map_map] at this
    intro fs pm pw
    obtain ⟨rs', pm', rfl⟩ := perm_map_inv pm rs rfl
    have hl : rs'.length ≤ 1000 := by rw [pm'.length_eq]; exact p3
    refine ⟨by simp; omega, fun i acc => acc = (rs'.take i).map fun r => r.ar.d, by simp, ?_, ?_⟩
    · rintro i e acc hx rfl
      obtain ⟨r, hr', rfl⟩ := get_map hx
      refine ⟨ci.cW, ci.nW _ (.inr (.inl rfl)), _, lkp2, _, _, rfl, by simp, _, lk_map p2 (pm'.mem_iff.mp (mem_get hr')), _, rfl, by simp, ?_⟩
      show _ = _
      rw [take_next hr', List.map_append]
      rfl
    · rintro acc rfl
      refine ⟨ci.cW, ci.nW _ (.inr (.inr rfl)), lk_ne lk2, lk_ne lk3, .inl ⟨rfl, k, _, _, _, rfl, ?_⟩⟩
      have q := h (rs'.map Raw.ar) (pm'.map _)
      rw [List.length_map, List.take_length]
      rw [List.map_map] at q
      exact q
def po_least_of : List D → (D → Prop) → Prop := fun ds P => ∃ (xs ys : List Ar), ds = [.tup (xs.map Ar.d), .tup (ys.map Ar.d)] ∧ (∀ r ∈ xs ++ ys, 1 ≤ r.c ∧ r.c ≤ 10 ^ 60) ∧ xs.length + ys.length ≤ 1000 ∧ (∀ l : List Ar, (l.map Ar.md).Nodup → (∀ m, m ∈ l.map Ar.md ↔ m ∈ (xs ++ ys).map Ar.md) → (∀ r ∈ l, 1 ≤ r.c ∧ r.c ≤ 10 ^ 60) → l.length ≤ xs.length + ys.length → P (.lst (l.map Ar.d)))
theorem sc_least_of : FnScope ["arrows", "others", "costs", "start", "stop", "guard", "cost", "mark"] ["arrows", "others"] (defScope s_least_of) := ⟨rfl, rfl, rfl, by decide +kernel, rfl, by decide +kernel, by decide +kernel⟩
theorem ok_least_of (F : FnP K "least_of" "least_of" s_least_of f fd) (Z : Free mg)  : FnOk T.prog T.w K mg base CX0 1 f fd ["arrows", "others"] (spD T po_least_of) := by
  have sc := sc_least_of
  refine okD (T := T) F sc (fun ds P h => ?_) fun cdv A outer s H E hr => ⟨_, (pss_cons (ps_own (ps_set (i := 2) sc.nd rfl (by first | exact Or.inl rfl | exact Or.inr rfl) (pe_newN (T := T))))
        (pss_cons (ps_for PassesOwn.never rfl (pi_seqK (K := K) rfl (pe_op (o_plusK (K := K) rfl) (pv 0) (pv 1))) (pg_tupK (K := K) (n := 4) rfl rfl (pgs_cons (pg_name (i := 3) sc.nd rfl (by first | exact Or.inl rfl | exact Or.inr rfl)) (pgs_cons (pg_name (i := 4) sc.nd rfl (by first | exact Or.inl rfl | exact Or.inr rfl)) (pgs_cons (pg_name (i := 5) sc.nd rfl (by first | exact Or.inl rfl | exact Or.inr rfl)) (pgs_cons (pg_name (i := 6) sc.nd rfl (by first | exact Or.inl rfl | exact Or.inr rfl)) pgs_nil))))) (pss_cons (ps_set (i := 7) sc.nd rfl (by first | exact Or.inl rfl | exact Or.inr rfl) (pe_tup (pa_cons (pv 3) (pa_cons (pv 4) (pa_cons (pv 5) pa_nil)))))
        (pss_one (ps_asg (pe_borD 2 (pe_callB (c_min2 rfl) (by rfl) Z.min bt_min (pa_cons (pv 6) (pa_cons (pe_getN (T := T) ⟨rfl, rfl⟩ (hu64 hr) (pv 2) (pv 7) (pv 6) ⟨rfl, rfl, rfl, rfl⟩) pa_nil)))) (pg_sub (pv 2) (pv 7) (set_dictN (T := T) ⟨rfl, rfl⟩ (hu64 hr)))))))
        (pss_one (ps_frzD 2 (ps_ret (pe_lc (own := [("mark", 7)]) rfl sc.nd (pi_keysN (T := T) (pv 2)) (blkOk_by (N := ["arrows", "others", "costs", "start", "stop", "guard", "cost", "mark"]) (sc := defScope s_least_of) (by decide +kernel)) (fun _ _ _ _ _ => (pg_name (i := 7) sc.nd rfl (by first | exact Or.inl rfl | exact Or.inr rfl))) (fun _ _ _ _ _ => pts_nil) (fun _ _ _ _ _ => (pe_op (o_plusK (K := K) rfl) (pv 7) (pe_tup (pa_cons (pe_ix (ix_dictN (T := T) ⟨rfl, rfl⟩ (hu64 hr)) (pv 2) (pv 7) (fun _ _ => rfl)) pa_nil)))))))))), fun ds P h => ?_⟩
  · obtain ⟨xs, ys, rfl, _⟩ := h; rfl
  · obtain ⟨xs, ys, rfl, p0, p1, h⟩ := h
    refine Left.mk ?_
    simp [argsOf, and_assoc]
    refine ⟨by omega, fun i ρ => ∃ (l : List Ar) (o3 o4 o5 o6 o7 : Option Kn), ρ = [some (.v (.tup (xs.map Ar.d))), some (.v (.tup (ys.map Ar.d))), some (.od (l.map Ar.md) (l.map fun s => .int s.c)), o3, o4, o5, o6, o7] ∧ (l.map Ar.md).Nodup ∧ (∀ m, m ∈ l.map Ar.md ↔ m ∈ ((xs ++ ys).take i).map Ar.md) ∧ (∀ s ∈ l, COk s) ∧ l.length ≤ i, ⟨[], _, _, _, _, _, rfl, by simp, by simp, by simp, by simp⟩, ?_, ?_⟩
    · rintro i e ρ hx ⟨l, o3, o4, o5, o6, o7, rfl, hn, hm, hc, hl⟩
      rw [← List.map_append] at hx
      obtain ⟨r, hr', rfl⟩ := get_map hx
      have cr : COk r := p0 r (mem_get hr')
      obtain ⟨c', e1, c1⟩ := lk_cost hc cr
      obtain ⟨l', k1, k2, k3, k4, k5, k6⟩ := put_cost (r := r) hn hc (min_ok cr c1)
      have hi : i < xs.length + ys.length := by
        have := (List.getElem?_eq_some_iff.mp hr').1
        simpa using this
      have fin : ∀ m, m ∈ l'.map Ar.md ↔ m ∈ ((xs ++ ys).take (i + 1)).map Ar.md := fun m => by
        rw [k4, hm, take_next hr', List.map_append, List.mem_append, List.map_singleton, List.mem_singleton]
      simp [and_assoc]
      exact ⟨c', e1, by omega, l', k1, k2, k3, fun m => by simpa using fin m, k5, by omega⟩
    · rintro ρ ⟨l, o3, o4, o5, o6, o7, rfl, hn, hm, hc, hl⟩
      have hz : xs.length + ys.length = (xs ++ ys).length := by simp
      have hl2 : l.length ≤ xs.length + ys.length := hl
      rw [hz, List.take_length] at hm
      simp [and_assoc]
      refine ⟨by omega, fun i acc => acc = (l.take i).map Ar.d, by simp, ?_, ?_⟩
      · rintro i e acc r hr' rfl rfl
        refine ⟨by simp, _, lk_map hn (mem_get hr'), _, rfl, by simp, ?_⟩
        show _ = _
        rw [take_next hr', List.map_append]
        rfl
      · rintro acc rfl
        rw [List.take_length]
        exact h l hn hm hc hl2
def po_Web_turned : List D → (D → Prop) → Prop := fun ds P => ∃ (k : Int) (ar : List Ar), ds = [.web k (ar.map Ar.d)] ∧ (3 ≤ k ∧ k ≤ 5) ∧ (∀ r ∈ ar, ArOk k r) ∧ (ar.map Ar.md).Nodup ∧ ar.length ≤ 1000 ∧ (∀ br : List Ar, br.Perm (ar.map Ar.turn) → P (.web k (br.map Ar.d)))
theorem sc_Web_turned : FnScope ["self", "start", "stop", "guard", "cost"] ["self"] (defScope s_Web_turned) := ⟨rfl, rfl, rfl, by decide +kernel, rfl, by decide +kernel, by decide +kernel⟩
theorem ok_Web_turned (F : FnP K "turned" "Web.turned" s_Web_turned f fd) (Z : Free mg) (m_Web : mg "Web" = some (.ref T.CW)) (U_Web : UseI T.prog T.w K mg base T.CW 7 ["self", "pegs", "arrows"] (spI T T.CW po_Web___init__) f0 fd0) : FnOk T.prog T.w K mg base CX0 9 f fd ["self"] (spD T po_Web_turned) := by
  have sc := sc_Web_turned
  refine okD (T := T) F sc (fun ds P h => ?_) fun cdv A outer s H E hr => ⟨_, (pss_one (ps_ret (pe_make U_Web.mkr U_Web.ok (hr.mono (by decide)) (by rfl) m_Web U_Web.b .nil pass0 (pa_cons (pe_fldK (K := K) rfl (pv 0) rfl) (pa_cons (pe_lc (own := [("start", 1), ("stop", 2), ("guard", 3), ("cost", 4)]) rfl sc.nd (pi_seqK (K := K) rfl (pe_fldK (K := K) rfl (pv 0) rfl)) (blkOk_by (N := ["self", "start", "stop", "guard", "cost"]) (sc := defScope s_Web_turned) (by decide +kernel)) (fun _ _ _ _ _ => (pg_tupK (K := K) (n := 4) rfl rfl (pgs_cons (pg_name (i := 1) sc.nd rfl (by first | exact Or.inl rfl | exact Or.inr rfl)) (pgs_cons (pg_name (i := 2) sc.nd rfl (by first | exact Or.inl rfl | exact Or.inr rfl)) (pgs_cons (pg_name (i := 3) sc.nd rfl (by first | exact Or.inl rfl | exact Or.inr rfl)) (pgs_cons (pg_name (i := 4) sc.nd rfl (by first | exact Or.inl rfl | exact Or.inr rfl)) pgs_nil)))))) (fun _ _ _ _ _ => pts_nil) (fun _ _ _ _ _ => (pe_tup (pa_cons (pv 2) (pa_cons (pv 1) (pa_cons (pv 3) (pa_cons (pv 4) pa_nil))))))) pa_nil))))), fun ds P h => ?_⟩
  · obtain ⟨k, ar, rfl, _⟩ := h; rfl
  · obtain ⟨k, ar, rfl, p0, p1, p2, p3, h⟩ := h
    refine Left.mk ?_
    simp [argsOf, and_assoc, po_Web___init__]
    refine ⟨by omega, fun i acc => acc = (ar.take i).map fun r => r.turn.d, by simp, ?_, ?_⟩
    · rintro i e acc r hr' rfl rfl
      refine ⟨_, rfl, rfl, _, _, rfl, _, _, rfl, _, _, rfl, _, _, rfl, rfl, ?_⟩
      show _ = _
      rw [take_next hr', List.map_append]
      rfl
    · rintro acc rfl
      refine ⟨ar.map Ar.rawT, ?_, p0.1, p0.2, fun r hr' => ?_, ?_, by simpa using p3, ?_⟩
      · rw [List.take_length, List.map_map]; rfl
      · obtain ⟨s, hs, rfl⟩ := List.mem_map.mp hr'
        exact rawT_ok (p1 s hs)
      · rw [List.map_map]
        exact rawT_nodup p1 p2
      · rw [List.map_map, rawT_ar p1]
        exact h
def po_Web_renamed : List D → (D → Prop) → Prop := fun ds P => ∃ (k : Int) (ar : List Ar) (n : List Int) (d : D), ds = [.web k (ar.map Ar.d), d] ∧ (d = intsT n ∨ d = intsL n) ∧ (3 ≤ k ∧ k ≤ 5) ∧ (∀ r ∈ ar, ArOk k r) ∧ (ar.map Ar.md).Nodup ∧ ar.length ≤ 1000 ∧ (∀ x ∈ n, 0 ≤ x ∧ x < k) ∧ n.Nodup ∧ (n.length : Int) = k ∧ (∀ br : List Ar, br.Perm (ar.map (Ar.ren n)) → P (.web k (br.map Ar.d)))
theorem sc_Web_renamed : FnScope ["self", "names", "new", "start", "stop", "guard", "cost", "peg"] ["self", "names"] (defScope s_Web_renamed) := ⟨rfl, rfl, rfl, by decide +kernel, rfl, by decide +kernel, by decide +kernel⟩
theorem ok_Web_renamed (F : FnP K "renamed" "Web.renamed" s_Web_renamed f fd) (Z : Free mg) (m_Web : mg "Web" = some (.ref T.CW)) (U_Web : UseI T.prog T.w K mg base T.CW 7 ["self", "pegs", "arrows"] (spI T T.CW po_Web___init__) f0 fd0) (U_check_names : Use T.prog T.w K mg base "check_names" 3 ["names", "pegs"] (spD T po_check_names) f1 fd1) : FnOk T.prog T.w K mg base CX0 9 f fd ["self", "names"] (spD T po_Web_renamed) := by
  have sc := sc_Web_renamed
  refine okD (T := T) F sc (fun ds P h => ?_) fun cdv A outer s H E hr => ⟨_, (pss_cons (ps_set (i := 2) sc.nd rfl (by first | exact Or.inl rfl | exact Or.inr rfl) (pe_use U_check_names (hr.mono (by decide)) (by rfl) (pa_cons (pv 1) (pa_cons (pe_fldK (K := K) rfl (pv 0) rfl) pa_nil))))
        (pss_one (ps_ret (pe_make U_Web.mkr U_Web.ok (hr.mono (by decide)) (by rfl) m_Web U_Web.b .nil pass0 (pa_cons (pe_fldK (K := K) rfl (pv 0) rfl) (pa_cons (pe_lc (own := [("start", 3), ("stop", 4), ("guard", 5), ("cost", 6)]) rfl sc.nd (pi_seqK (K := K) rfl (pe_fldK (K := K) rfl (pv 0) rfl)) (blkOk_by (N := ["self", "names", "new", "start", "stop", "guard", "cost", "peg"]) (sc := defScope s_Web_renamed) (by decide +kernel)) (fun _ _ _ _ _ => (pg_tupK (K := K) (n := 4) rfl rfl (pgs_cons (pg_name (i := 3) sc.nd rfl (by first | exact Or.inl rfl | exact Or.inr rfl)) (pgs_cons (pg_name (i := 4) sc.nd rfl (by first | exact Or.inl rfl | exact Or.inr rfl)) (pgs_cons (pg_name (i := 5) sc.nd rfl (by first | exact Or.inl rfl | exact Or.inr rfl)) (pgs_cons (pg_name (i := 6) sc.nd rfl (by first | exact Or.inl rfl | exact Or.inr rfl)) pgs_nil)))))) (fun _ _ _ _ _ => pts_nil) (fun _ _ _ _ _ => (pe_tup (pa_cons (pe_ix (ix_seqK (K := K) rfl) (pv 2) (pv 3) (fun _ _ => rfl)) (pa_cons (pe_ix (ix_seqK (K := K) rfl) (pv 2) (pv 4) (fun _ _ => rfl)) (pa_cons (pe_lc (own := [("peg", 7)]) rfl sc.nd (pi_seqK (K := K) rfl (pv 5)) (blkOk_by (by kernel_rfl)) (fun _ _ _ _ _ => (pg_name (i := 7) sc.nd rfl (by first | exact Or.inl rfl | exact Or.inr rfl))) (fun _ _ _ _ _ => pts_nil) (fun _ _ _ _ _ => (pe_ix (ix_seqK (K := K) rfl) (pv 2) (pv 7) (fun _ _ => rfl)))) (pa_cons (pv 6) pa_nil))))))) pa_nil)))))), fun ds P h => ?_⟩
  · obtain ⟨k, ar, n, d, rfl, _⟩ := h; rfl
  · obtain ⟨k, ar, n, d, rfl, p0, p1, p2, p3, p4, p5, p6, p7, h⟩ := h
    refine Left.mk ?_
    have hN : NmOk k n := ⟨p5, p6, p7⟩
    simp [argsOf, and_assoc, po_Web___init__, po_check_names]
    refine ⟨n, p0, p5, p6, p7, by omega, fun i acc => acc = (ar.take i).map fun r => (r.rawR n).d, by simp, ?_, ?_⟩
    · rintro i e acc r hr' rfl rfl
      have ok := p2 r (mem_get hr')
      have tn : ∀ {x : Int}, 0 ≤ x → D.int x = D.int (x.toNat : Int) := fun h => by rw [Int.toNat_of_nonneg h]
      refine ⟨_, rfl, rfl, _, _, rfl, _, _, rfl, _, _, rfl, _, _, rfl, rfl, r.a.toNat, tn ok.a.1, .int (nm n r.a), ⟨_, nm_get hN ok.a, rfl⟩, r.b.toNat, tn ok.b.1, .int (nm n r.b), ⟨_, nm_get hN ok.b, rfl⟩, r.g.map .int, .inr rfl, ?_, fun j acc1 => acc1 = (r.g.take j).map fun x => .int (nm n x), by simp, ?_, ?_⟩
      · have := ok.g.few
        simp
        omega
      · rintro j e acc1 hx rfl
        obtain ⟨x, hx', rfl⟩ := get_intD hx
        have xr := ok.g.rg x (mem_get hx')
        refine ⟨x.toNat, tn xr.1, .int (nm n x), ⟨_, nm_get hN xr, rfl⟩, ?_⟩
        show _ = _
        rw [take_next hx', List.map_append]
        rfl
      · rintro acc1 rfl
        show _ = _
        rw [take_next hr', List.map_append, List.length_map, List.take_length]
        simp [Ar.rawR, Raw.d, Raw.gd]
    · rintro acc rfl
      refine ⟨ar.map (Ar.rawR n), ?_, p1.1, p1.2, fun r hr' => ?_, ?_, by simpa using p4, ?_⟩
      · rw [List.take_length, List.map_map]; rfl
      · obtain ⟨s, hs, rfl⟩ := List.mem_map.mp hr'
        exact rawR_ok hN (p2 s hs)
      · rw [List.map_map]
        exact rawR_nodup hN p2 p3
      · rw [List.map_map]
        exact h
def po_Web___or__ : List D → (D → Prop) → Prop := fun ds P => ∃ (k : Int) (xs ys : List Ar), ds = [.web k (xs.map Ar.d), .web k (ys.map Ar.d)] ∧ (3 ≤ k ∧ k ≤ 5) ∧ (∀ r ∈ xs ++ ys, ArOk k r) ∧ xs.length + ys.length ≤ 1000 ∧ (∀ l : List Ar, (l.map Ar.md).Nodup → (∀ m, m ∈ l.map Ar.md ↔ m ∈ (xs ++ ys).map Ar.md) → (∀ r ∈ l, ArOk k r) → l.length ≤ xs.length + ys.length → P (.web k (l.map Ar.d)))
theorem sc_Web___or__ : FnScope ["self", "other"] ["self", "other"] (defScope s_Web___or__) := ⟨rfl, rfl, rfl, by decide +kernel, rfl, by decide +kernel, by decide +kernel⟩
theorem ok_Web___or__ (F : FnP K "__or__" "Web.__or__" s_Web___or__ f fd) (Z : Free mg) (m_Web : mg "Web" = some (.ref T.CW)) (U_Web : UseI T.prog T.w K mg base T.CW 7 ["self", "pegs", "arrows"] (spI T T.CW po_Web___init__) f0 fd0) (U_least_of : Use T.prog T.w K mg base "least_of" 1 ["arrows", "others"] (spD T po_least_of) f1 fd1) : FnOk T.prog T.w K mg base CX0 9 f fd ["self", "other"] (spD T po_Web___or__) := by
  have sc := sc_Web___or__
  refine okD (T := T) F sc (fun ds P h => ?_) fun cdv A outer s H E hr => ⟨_, (pss_cons (ps_if (pt_not (pt_val (pe_callB (isi2 (K := K) rfl) (by rfl) Z.isinstance bt_isinstance (pa_cons (pv 1) (pa_cons (pe_glob (v := .ref T.CW) rfl m_Web rfl) pa_nil))))) (pss_one ps_never) pss_nil)
        (pss_cons (ps_if (pt_cmpR (o_neK (K := K) rfl (hu64 hr)) (pe_fldK (K := K) rfl (pv 1) rfl) (pe_fldK (K := K) rfl (pv 0) rfl) (nomark _)) (pss_one ps_never) pss_nil)
        (pss_one (ps_ret (pe_make U_Web.mkr U_Web.ok (hr.mono (by decide)) (by rfl) m_Web U_Web.b .nil pass0 (pa_cons (pe_fldK (K := K) rfl (pv 0) rfl) (pa_cons (pe_use U_least_of (hr.mono (by decide)) (by rfl) (pa_cons (pe_fldK (K := K) rfl (pv 0) rfl) (pa_cons (pe_fldK (K := K) rfl (pv 1) rfl) pa_nil))) pa_nil))))))), fun ds P h => ?_⟩
  · obtain ⟨k, xs, ys, rfl, _⟩ := h; rfl
  · obtain ⟨k, xs, ys, rfl, p0, p1, p2, h⟩ := h
    refine Left.mk ?_
    simp [argsOf, and_assoc, po_Web___init__, po_least_of]
    refine ⟨xs, rfl, ys, rfl, fun r hr' => ?_, p2, fun l hn hm hc hl => ?_⟩
    · have := (p1 r (List.mem_append.mpr hr')).c
      simpa using this
    · have hm' : ∀ m, m ∈ l.map Ar.md ↔ m ∈ (xs ++ ys).map Ar.md := fun m => by simpa using hm m
      have ok : ∀ r ∈ l, ArOk k r := fun r hr' => by
        obtain ⟨s, hs, e⟩ := List.mem_map.mp ((hm' r.md).mp (List.mem_map.mpr ⟨r, hr', rfl⟩))
        exact arOk_md (p1 s hs) e.symm ⟨(hc r hr').1, by simpa using (hc r hr').2⟩
      refine ⟨l.map Ar.raw0, ?_, p0.1, p0.2, fun r hr' => ?_, ?_, by simp; omega, fun ar pm => ?_⟩
      · rw [List.map_map]; rfl
      · obtain ⟨s, hs, rfl⟩ := List.mem_map.mp hr'
        exact raw0_ok (ok s hs)
      · rw [List.map_map]
        exact raw0_nodup ok hn
      · rw [List.map_map, raw0_ar ok] at pm
        exact h ar ((pm.map Ar.md).nodup_iff.mpr hn) (fun m => ((pm.map Ar.md).mem_iff).trans (hm' m)) (fun r hr' => ok r (pm.mem_iff.mp hr')) (by rw [pm.length_eq]; exact hl)
def po_Game___init__ : List D → (D → Prop) → Prop := fun ds P => ∃ (k : Int) (ws : List (List Ar)), ds = [.int k, .lst (ws.map (webD k))] ∧ (3 ≤ k ∧ k ≤ 5) ∧ ws.length ≤ 40 ∧ P (gameD k ws)
theorem sc_Game___init__ : FnScope ["self", "pegs", "webs", "disc", "web"] ["self", "pegs", "webs"] (defScope s_Game___init__) := ⟨rfl, rfl, rfl, by decide +kernel, rfl, by decide +kernel, by decide +kernel⟩
theorem ok_Game___init__ (F : FnP K "__init__" "Game.__init__" s_Game___init__ f fd) (Z : Free mg) (m_Web : mg "Web" = some (.ref T.CW)) {t_MOST_DISCS : Tok} (m_MOST_DISCS : mg "MOST_DISCS" = some (.int 40 t_MOST_DISCS)) (U_check_pegs : Use T.prog T.w K mg base "check_pegs" 2 ["pegs"] (spD T po_check_pegs) f0 fd0) : FnOk T.prog T.w K mg base CX0 3 f fd ["self", "pegs", "webs"] (spI T T.CG po_Game___init__) := by
  have sc := sc_Game___init__
  refine okI (T := T) F sc (fun ds P h => ?_) fun cdv A outer s H E hr => ⟨_, (pss_cons (ps_fld (pv 0) (pe_use U_check_pegs (hr.mono (by decide)) (by rfl) (pa_cons (pv 1) pa_nil)) (by rfl))
        (pss_cons (ps_if (PW.pt (pw_or (pt_not (pt_val (pe_callB (isiT2 (K := K) rfl) (by rfl) Z.isinstance bt_isinstance (pa_cons (pv 2) (pa_cons (pe_tup (pa_cons (pe_bltn (v := .ty "list") (by rfl) Z.list bt_list rfl) (pa_cons (pe_bltn (v := .ty "tuple") (by rfl) Z.tuple bt_tuple rfl) pa_nil))) pa_nil))))) (pw_or1 (pt_cmpR o_gt (pe_callB (c_lenK2 (K := K) rfl) (by rfl) Z.len bt_len (pa_cons (pv 2) pa_nil)) (pe_glob (v := .int 40) rfl m_MOST_DISCS ⟨_, rfl⟩) (nomark _))))) (pss_one ps_never) pss_nil)
        (pss_cons (ps_for PassesOwn.never rfl (pi_enumA (by rfl) Z.enumerate (pa_cons (pv 2) pa_nil)) (pg_tupK (K := K) (n := 2) rfl rfl (pgs_cons (pg_name (i := 3) sc.nd rfl (by first | exact Or.inl rfl | exact Or.inr rfl)) (pgs_cons (pg_name (i := 4) sc.nd rfl (by first | exact Or.inl rfl | exact Or.inr rfl)) pgs_nil))) (pss_one (ps_if (PW.pt (pw_or (pt_not (pt_val (pe_callB (isi2 (K := K) rfl) (by rfl) Z.isinstance bt_isinstance (pa_cons (pv 4) (pa_cons (pe_glob (v := .ref T.CW) rfl m_Web rfl) pa_nil))))) (pw_or1 (pt_cmpR (o_neK (K := K) rfl (hu64 hr)) (pe_fldK (K := K) rfl (pv 4) rfl) (pe_fldSK (K := K) 0 rfl (pv 0) rfl) (nomark _))))) (pss_one ps_never) pss_nil)))
        (pss_cons (ps_fld (pv 0) (pe_callTy (c_tuple2 (K := K) rfl) (by rfl) Z.tuple bt_tuple (pa_cons (pv 2) pa_nil)) (by rfl))
        (pss_one (ps_fld (pv 0) (pe_callB (c_lenK2 (K := K) rfl) (by rfl) Z.len bt_len (pa_cons (pe_fldSK (K := K) 0 rfl (pv 0) rfl) pa_nil)) (by rfl))))))), fun ai ds P h => ?_⟩
  · obtain ⟨k, ws, rfl, _⟩ := h; rfl
  · obtain ⟨k, ws, rfl, p0, p1, h⟩ := h
    refine Left.mk ?_
    simp [argsOf, and_assoc, po_check_pegs]
    refine ⟨p0.1, p0.2, ci.cG, ci.nG _ (.inl rfl), by omega, fun i ρ => ∃ o3 o4, ρ = [some (.slf ai T.CG ["pegs"] [.int k]), some (.v (.int k)), some (.v (.lst (ws.map (webD k)))), o3, o4], ⟨_, _, rfl⟩, ?_, ?_⟩
    · rintro i e ρ hx ⟨o3, o4, rfl⟩
      obtain ⟨y, hy, rfl⟩ := enumD_some hx
      obtain ⟨r, hr', rfl⟩ := get_map hy
      exact ⟨_, rfl, rfl, _, _, rfl, _, _, rfl, rfl, _, rfl, ⟨_, _, rfl⟩, _, rfl, k, ⟨_, .inl rfl⟩, _, _, _, _, rfl, ci.cG, ci.nG _ (.inl rfl), _, lkp1, eqOk_int _ _, rfl, _, _, rfl⟩
    · rintro ρ ⟨o3, o4, rfl⟩
      refine ⟨_, rfl, ws.map (webD k), .inl rfl, _, _, _, _, rfl, ci.cG, ci.nG _ (.inr (.inl rfl)), ?_⟩
      refine ⟨by simp; exact lk_ne lk4, by simp, _, _, _, _, rfl, ci.cG, ci.nG _ (.inr (.inl rfl)), _, lkpw, ws.map (webD k), .inr rfl, _, _, _, _, rfl, ci.cG, ci.nG _ (.inr (.inr rfl)), by simp; exact ⟨lk_ne lk5, lk_ne lk6⟩, by simp, .inr ⟨rfl, k, _, rfl, h⟩⟩
end
end
end DL
/-! M4: leading, tied, sets: plain -/
namespace DL
open PySem L2 PyProof.Rows
noncomputable section
inductive Rt {α : Type} (R : α → α → Prop) (x : α) : α → Prop
  | refl : Rt R x x
  | tail {y z : α} : Rt R x y → R y z → Rt R x z
theorem Rt.trans {α : Type} {R : α → α → Prop} {x y z : α} (h : Rt R x y) (h2 : Rt R y z) : Rt R x z := by
  induction h2 with
  | refl => exact h
  | tail _ r ih => exact ih.tail r
theorem Rt.mono {α : Type} {R S : α → α → Prop} (hm : ∀ x y, R x y → S x y) {x y : α} (h : Rt R x y) : Rt S x y := by
  induction h with
  | refl => exact .refl
  | tail _ r ih => exact ih.tail (hm _ _ r)
theorem Rt.head {α : Type} {R : α → α → Prop} {x y z : α} (r : R x y) (h : Rt R y z) : Rt R x z := (Rt.tail .refl r).trans h
theorem Rt.flip {α : Type} {R : α → α → Prop} {x y : α} (h : Rt (fun a b => R b a) x y) : Rt R y x := by
  induction h with
  | refl => exact .refl
  | tail _ r ih => exact .head r ih
/-- what holds at x and is kept by each step -/
theorem Rt.inv {α : Type} {R : α → α → Prop} {C : α → Prop} {x y : α} (h : Rt R x y) (h0 : C x) (hs : ∀ a b, C a → R a b → C b) : C y := by
  induction h with
  | refl => exact h0
  | tail _ r ih => exact hs _ _ ih r
abbrev Prs := List (Int × Int)
abbrev LeadP (ps : Prs) (x y : Int) : Prop := Rt (fun a b => (a, b) ∈ ps) x y
def prD (p : Int × Int) : D := .tup [.int p.1, .int p.2]
/-- S: in order, those that x leads to and that lead to x -/
structure TiedP (ps : Prs) (x : Int) (S : List Int) : Prop where
  up : S.Pairwise (· < ·)
  mem : ∀ y, y ∈ S ↔ LeadP ps x y ∧ LeadP ps y x
theorem TiedP.uniq {ps : Prs} {x : Int} {S S' : List Int} (h : TiedP ps x S) (h' : TiedP ps x S') : S = S' := lt_unique h.up h'.up fun y => (h.mem y).trans (h'.mem y).symm
def Ar.pr (r : Ar) : Int × Int := (r.a, r.b)
/-- g has one in each of the sets -/
def fitG (g : List Int) (Ss : List (List Int)) : Bool := Ss.all fun S => g.any fun x => decide (x ∈ S)
def usable (w : List Ar) (Ss : List (List Int)) : List Ar := w.filter fun r => fitG r.g Ss
/-- the sets of a position, from the least disc on -/
inductive SetsOk : List (List Int) → List (List Ar) → List Int → List (List Int) → Prop
  | nil (Ss : List (List Int)) : SetsOk Ss [] [] []
  | cons {Ss : List (List Int)} {w : List Ar} {ws : List (List Ar)} {x : Int} {p : List Int} {S : List Int} {R : List (List Int)} : TiedP ((usable w Ss).map Ar.pr) x S → SetsOk (Ss ++ [S]) ws p R → SetsOk Ss (w :: ws) (x :: p) (S :: R)
theorem SetsOk.uniq : ∀ {ws : List (List Ar)} {Ss : List (List Int)} {p : List Int} {R R' : List (List Int)}, SetsOk Ss ws p R → SetsOk Ss ws p R' → R = R'
  | _, _, _, _, _, .nil _, .nil _ => rfl
  | _, _, _, _, _, .cons t s, .cons t' s' => by
    have e := t.uniq t'
    subst e
    rw [SetsOk.uniq s s']
theorem SetsOk.len : ∀ {ws : List (List Ar)} {Ss : List (List Int)} {p : List Int} {R : List (List Int)}, SetsOk Ss ws p R → R.length = ws.length ∧ p.length = ws.length
  | _, _, _, _, .nil _ => ⟨rfl, rfl⟩
  | _, _, _, _, .cons _ s => by obtain ⟨h1, h2⟩ := s.len; exact ⟨by simp [h1], by simp [h2]⟩
/-- a web: its arrows are right, its marks stand once -/
structure WOk (k : Int) (w : List Ar) : Prop where
  ok : ∀ r ∈ w, ArOk k r
  nd : (w.map Ar.md).Nodup
  few : w.length ≤ 300
def WsOk (k : Int) (ws : List (List Ar)) : Prop := ∀ w ∈ ws, WOk k w
/-- a position: one peg a disc -/
structure PosOk (k : Int) (n : Nat) (p : List Int) : Prop where
  rg : ∀ x ∈ p, 0 ≤ x ∧ x < k
  len : p.length = n
/-! ### how many guards -/
def subs : List Int → List (List Int)
  | [] => [[]]
  | x :: xs => subs xs ++ (subs xs).map (x :: ·)
theorem mem_subs : ∀ {l g : List Int}, l.Pairwise (· < ·) → g.Pairwise (· < ·) → (∀ x ∈ g, x ∈ l) → g ∈ subs l
  | [], [], _, _, _ => by simp [subs]
  | [], y :: ys, _, _, h => by have := h y List.mem_cons_self; simp at this
  | x :: xs, [], hl, _, _ => by
    simp only [subs, List.mem_append]
    exact .inl (mem_subs (List.pairwise_cons.mp hl).2 .nil fun y hy => nomatch hy)
  | x :: xs, y :: ys, hl, hg, h => by
    obtain ⟨l1, l2⟩ := List.pairwise_cons.mp hl
    obtain ⟨g1, g2⟩ := List.pairwise_cons.mp hg
    simp only [subs, List.mem_append, List.mem_map]
    by_cases e : y = x
    · subst e
      refine .inr ⟨ys, mem_subs l2 g2 fun z hz => ?_, rfl⟩
      rcases List.mem_cons.mp (h z (List.mem_cons_of_mem _ hz)) with q | q
      · have := g1 z hz; omega
      · exact q
    · have hy : y ∈ xs := (List.mem_cons.mp (h y List.mem_cons_self)).resolve_left e
      have lt := l1 y hy
      refine .inl (mem_subs l2 hg fun z hz => ?_)
      rcases List.mem_cons.mp (h z hz) with q | q
      · rcases List.mem_cons.mp hz with q2 | q2
        · omega
        · have := g1 z q2; omega
      · exact q
theorem nodup_le {α : Type} [DecidableEq α] {l1 l2 : List α} (h1 : l1.Nodup) (h2 : ∀ x ∈ l1, x ∈ l2) : l1.length ≤ l2.length := by
  induction l1 generalizing l2 with
  | nil => exact Nat.zero_le _
  | cons x l ih =>
    obtain ⟨q1, q2⟩ := List.nodup_cons.mp h1
    have hx := h2 x List.mem_cons_self
    have := ih (l2 := l2.erase x) q2 fun y hy => (List.mem_erase_of_ne (show y ≠ x from fun e => q1 (by rw [← e]; exact hy))).2 (h2 y (List.mem_cons_of_mem _ hy))
    have e := List.length_erase_of_mem hx
    have hp : 0 < l2.length := List.length_pos_of_mem hx
    rw [List.length_cons]
    omega
theorem guards_few {k : Int} (hk : k ≤ 5) {l : List (List Int)} (hn : l.Nodup) (h : ∀ g ∈ l, GOk k g) : l.length ≤ 32 := by
  have := nodup_le (l2 := subs [0, 1, 2, 3, 4]) hn fun g hg => mem_subs (by decide) (h g hg).up fun x hx => by
    have := (h g hg).rg x hx
    have : x = 0 ∨ x = 1 ∨ x = 2 ∨ x = 3 ∨ x = 4 := by omega
    simpa using this
  have e : (subs [0, 1, 2, 3, 4]).length = 32 := by decide
  omega
theorem pd_snoc {α β : Type} {R : α → β → Prop} {x : α} {y : β} : ∀ {a : List α} {b : List β}, Paired R a b → R x y → Paired R (a ++ [x]) (b ++ [y])
  | _, _, .nil, r => .cons r .nil
  | _, _, .cons q t, r => .cons q (pd_snoc t r)
end
end DL
/-! M5: the search by turns -/
namespace DL
open PySem L2 PyProof.Rows
noncomputable section
structure LI (ps : Prs) (x : Int) (F : List Int) (n : Nat) : Prop where
  nd : F.Nodup
  mem : ∀ y ∈ F, LeadP ps x y
  x0 : x ∈ F
  sub : ∀ y ∈ F, y ∈ x :: ps.map (·.2)
  done : ∀ j u y, j < n → F[j]? = some u → (u, y) ∈ ps → y ∈ F
theorem LI.len {ps : Prs} {x : Int} {F : List Int} {n : Nat} (h : LI ps x F n) : F.length ≤ ps.length + 1 := by
  have := nodup_le h.nd h.sub
  simpa using this
theorem LI.start (ps : Prs) (x : Int) : LI ps x [x] 0 := ⟨by simp, fun y hy => by rw [List.mem_singleton.mp hy]; exact .refl, by simp, fun y hy => by rw [List.mem_singleton.mp hy]; simp, fun j u y h => by omega⟩
theorem LI.add {ps : Prs} {x u y : Int} {F : List Int} {n : Nat} (h : LI ps x F n) (hn : n ≤ F.length) (hu : u ∈ F) (hp : (u, y) ∈ ps) (ny : y ∉ F) : LI ps x (F ++ [y]) n := by
  refine ⟨?_, fun z hz => ?_, List.mem_append_left _ h.x0, fun z hz => ?_, fun j v z hj hv hz => ?_⟩
  · rw [List.nodup_append]
    exact ⟨h.nd, by simp, fun a ha b hb => by rw [List.mem_singleton.mp hb]; exact fun e => ny (e ▸ ha)⟩
  · rcases List.mem_append.mp hz with hz | hz
    · exact h.mem z hz
    · rw [List.mem_singleton.mp hz]; exact (h.mem u hu).tail hp
  · rcases List.mem_append.mp hz with hz | hz
    · exact h.sub z hz
    · rw [List.mem_singleton.mp hz]; exact List.mem_cons_of_mem _ (List.mem_map.mpr ⟨_, hp, rfl⟩)
  · rw [List.getElem?_append_left (by omega)] at hv
    exact List.mem_append_left _ (h.done j v z hj hv hz)
theorem LI.next {ps : Prs} {x u : Int} {F : List Int} {n : Nat} (h : LI ps x F n) (hu : F[n]? = some u) (ha : ∀ y, (u, y) ∈ ps → y ∈ F) : LI ps x F (n + 1) :=
  ⟨h.nd, h.mem, h.x0, h.sub, fun j v z hj hv hz => by
    by_cases e : j = n
    · subst e
      rw [hu] at hv
      cases hv
      exact ha z hz
    · exact h.done j v z (by omega) hv hz⟩
theorem LI.fin {ps : Prs} {x : Int} {F : List Int} {n : Nat} (h : LI ps x F n) (hn : F.length ≤ n) (y : Int) : y ∈ F ↔ LeadP ps x y := by
  refine ⟨h.mem y, fun q => q.inv (C := fun z => z ∈ F) h.x0 fun a b ha r => ?_⟩
  obtain ⟨j, hj, e⟩ := List.mem_iff_getElem.mp ha
  exact h.done j a b (by omega) (by rw [List.getElem?_eq_getElem hj, e]) r
/-- the inner turns: u's arrows up to the i-th -/
theorem seen_next {ps : Prs} {u : Int} {F : List Int} {i : Nat} {p : Int × Int} (hp : ps[i]? = some p) (h : ∀ y, (u, y) ∈ ps.take i → y ∈ F) (h2 : p.1 = u → p.2 ∈ F) : ∀ y, (u, y) ∈ ps.take (i + 1) → y ∈ F := fun y hy => by
  rw [take_next hp] at hy
  rcases List.mem_append.mp hy with hy | hy
  · exact h y hy
  · have e := List.mem_singleton.mp hy
    subst e
    exact h2 rfl
theorem lead_flip {ps : Prs} {x y : Int} : LeadP (ps.map fun p => (p.2, p.1)) x y ↔ LeadP ps y x := by
  have key : ∀ a b, (a, b) ∈ ps.map (fun p => (p.2, p.1)) ↔ (b, a) ∈ ps := fun a b => by
    rw [List.mem_map]
    constructor
    · rintro ⟨⟨c, d⟩, h, e⟩
      cases e
      exact h
    · intro h
      exact ⟨(b, a), h, rfl⟩
  constructor
  · intro h
    exact Rt.flip (h.mono fun a b r => (key a b).mp r)
  · intro h
    refine Rt.flip (Rt.mono (fun a b r => ?_) h)
    exact (key b a).mpr r
theorem lead_sub {ps : Prs} {x y : Int} (h : LeadP ps x y) : y ∈ x :: ps.map (·.2) := by
  induction h with
  | refl => simp
  | tail _ r _ => exact List.mem_cons_of_mem _ (List.mem_map.mpr ⟨_, r, rfl⟩)
/-- how many positions -/
def prod (Ss : List (List Int)) : Int := Ss.foldl (fun m S => m * (S.length : Int)) 1
def inBox (p : List Int) (Ss : List (List Int)) : Bool := (p.zip Ss).all fun q => decide (q.1 ∈ q.2)
theorem prod_snoc (a : List (List Int)) (R : List Int) : prod (a ++ [R]) = prod a * (R.length : Int) := by
  unfold prod
  rw [List.foldl_append]
  rfl
theorem zipD_eq (p : List Int) (Ss : List (List Int)) : zipD (p.map D.int) (Ss.map intsT) = (p.zip Ss).map fun q => D.tup [.int q.1, intsT q.2] := by
  unfold zipD
  rw [List.zip_map, List.map_map]
  rfl
theorem SetsOk.snoc {w : List Ar} {x : Int} {S : List Int} : ∀ {ws : List (List Ar)} {Ss : List (List Int)} {p : List Int} {R : List (List Int)}, SetsOk Ss ws p R → TiedP ((usable w (Ss ++ R)).map Ar.pr) x S → SetsOk Ss (ws ++ [w]) (p ++ [x]) (R ++ [S])
  | _, Ss, _, _, .nil _, t => .cons (by simpa using t) (.nil _)
  | _, Ss, _, _, .cons t s, h => .cons t (s.snoc (by simpa using h))
theorem fitG_snoc (g : List Int) (Ss : List (List Int)) (S : List Int) : fitG g (Ss ++ [S]) = (fitG g Ss && g.any fun x => decide (x ∈ S)) := by simp [fitG]
end
end DL
namespace DL
open PySem L2 PyProof.Rows
noncomputable section
section
variable {T : Tx} {K : PySem.W.Frag} {mg : Str → Option Value} {base : Heap} {f f0 f1 f2 f3 f4 f5 f6 f7 : Addr} {fd fd0 fd1 fd2 fd3 fd4 fd5 fd6 fd7 : FuncData} [ci : CI T K] [n1 : NoF "turned"] [n2 : NoF "renamed"] [n3 : NoF "guards"]
def po_Game_turned : List D → (D → Prop) → Prop := fun ds P => ∃ (k : Int) (ws : List (List Ar)), ds = [gameD k ws] ∧ (3 ≤ k ∧ k ≤ 5) ∧ WsOk k ws ∧ ws.length ≤ 40 ∧ (∀ vs : List (List Ar), Paired (fun w v => List.Perm v (w.map Ar.turn)) ws vs → P (gameD k vs))
theorem sc_Game_turned : FnScope ["self", "web"] ["self"] (defScope s_Game_turned) := ⟨rfl, rfl, rfl, by decide +kernel, rfl, by decide +kernel, by decide +kernel⟩
theorem ok_Game_turned (F : FnP K "turned" "Game.turned" s_Game_turned f fd) (Z : Free mg) (m_Game : mg "Game" = some (.ref T.CG)) (U_Game : UseI T.prog T.w K mg base T.CG 3 ["self", "pegs", "webs"] (spI T T.CG po_Game___init__) f0 fd0) (U_Web_turned : UseM T.prog T.w K mg base T.CW "turned" 9 ["self"] (spD T po_Web_turned) f1 fd1) : FnOk T.prog T.w K mg base CX0 10 f fd ["self"] (spD T po_Game_turned) := by
  have sc := sc_Game_turned
  refine okD (T := T) F sc (fun ds P h => ?_) fun cdv A outer s H E hr => ⟨_, (pss_one (ps_ret (pe_make U_Game.mkr U_Game.ok (hr.mono (by decide)) (by rfl) m_Game U_Game.b .nil pass0 (pa_cons (pe_fldK (K := K) rfl (pv 0) rfl) (pa_cons (pe_lc (own := [("web", 1)]) rfl sc.nd (pi_seqK (K := K) rfl (pe_fldK (K := K) rfl (pv 0) rfl)) (blkOk_by (N := ["self", "web"]) (sc := defScope s_Game_turned) (by decide +kernel)) (fun _ _ _ _ _ => (pg_name (i := 1) sc.nd rfl (by first | exact Or.inl rfl | exact Or.inr rfl))) (fun _ _ _ _ _ => pts_nil) (fun _ _ _ _ _ => (pe_meth0 (pv 1) ci.cW U_Web_turned.m U_Web_turned.ok (hr.mono (by decide)) U_Web_turned.b .nil pass0))) pa_nil))))), fun ds P h => ?_⟩
  · obtain ⟨k, ws, rfl, _⟩ := h; rfl
  · obtain ⟨k, ws, rfl, p0, p1, p2, h⟩ := h
    refine Left.mk ?_
    simp [argsOf, and_assoc, po_Web_turned, po_Game___init__]
    refine ⟨by omega, fun i acc => ∃ vs : List (List Ar), acc = vs.map (webD k) ∧ Paired (fun w v => List.Perm v (w.map Ar.turn)) (ws.take i) vs, ⟨[], rfl, .nil⟩, ?_, ?_⟩
    · rintro i e acc w hw rfl ⟨vs, rfl, pv⟩
      have ok := p1 w (mem_get hw)
      refine ⟨⟨_, _, rfl⟩, k, w, rfl, p0.1, p0.2, ok.ok, ok.nd, Nat.le_trans ok.few (by decide), fun br pm => ⟨vs ++ [br], by simp, ?_⟩⟩
      rw [take_next hw]
      exact pd_snoc pv pm
    · rintro acc ⟨vs, rfl, pv⟩
      rw [List.take_length] at pv
      exact ⟨vs, rfl, p0.1, p0.2, by rw [← Paired.length pv]; exact p2, h vs pv⟩
def po_Game_renamed : List D → (D → Prop) → Prop := fun ds P => ∃ (k : Int) (ws : List (List Ar)) (n : List Int) (d : D), ds = [gameD k ws, d] ∧ (d = intsT n ∨ d = intsL n) ∧ (3 ≤ k ∧ k ≤ 5) ∧ WsOk k ws ∧ ws.length ≤ 40 ∧ NmOk k n ∧ (∀ vs : List (List Ar), Paired (fun w v => List.Perm v (w.map (Ar.ren n))) ws vs → P (gameD k vs))
theorem sc_Game_renamed : FnScope ["self", "names", "new", "web"] ["self", "names"] (defScope s_Game_renamed) := ⟨rfl, rfl, rfl, by decide +kernel, rfl, by decide +kernel, by decide +kernel⟩
theorem ok_Game_renamed (F : FnP K "renamed" "Game.renamed" s_Game_renamed f fd) (Z : Free mg) (m_Game : mg "Game" = some (.ref T.CG)) (U_Game : UseI T.prog T.w K mg base T.CG 3 ["self", "pegs", "webs"] (spI T T.CG po_Game___init__) f0 fd0) (U_Web_renamed : UseM T.prog T.w K mg base T.CW "renamed" 9 ["self", "names"] (spD T po_Web_renamed) f1 fd1) (U_check_names : Use T.prog T.w K mg base "check_names" 3 ["names", "pegs"] (spD T po_check_names) f2 fd2) : FnOk T.prog T.w K mg base CX0 10 f fd ["self", "names"] (spD T po_Game_renamed) := by
  have sc := sc_Game_renamed
  refine okD (T := T) F sc (fun ds P h => ?_) fun cdv A outer s H E hr => ⟨_, (pss_cons (ps_set (i := 2) sc.nd rfl (by first | exact Or.inl rfl | exact Or.inr rfl) (pe_use U_check_names (hr.mono (by decide)) (by rfl) (pa_cons (pv 1) (pa_cons (pe_fldK (K := K) rfl (pv 0) rfl) pa_nil))))
        (pss_one (ps_ret (pe_make U_Game.mkr U_Game.ok (hr.mono (by decide)) (by rfl) m_Game U_Game.b .nil pass0 (pa_cons (pe_fldK (K := K) rfl (pv 0) rfl) (pa_cons (pe_lc (own := [("web", 3)]) rfl sc.nd (pi_seqK (K := K) rfl (pe_fldK (K := K) rfl (pv 0) rfl)) (blkOk_by (N := ["self", "names", "new", "web"]) (sc := defScope s_Game_renamed) (by decide +kernel)) (fun _ _ _ _ _ => (pg_name (i := 3) sc.nd rfl (by first | exact Or.inl rfl | exact Or.inr rfl))) (fun _ _ _ _ _ => pts_nil) (fun _ _ _ _ _ => (pe_meth (pv 3) ci.cW U_Web_renamed.m U_Web_renamed.ok (hr.mono (by decide)) U_Web_renamed.b .nil pass0 (pa_cons (pv 2) pa_nil)))) pa_nil)))))), fun ds P h => ?_⟩
  · obtain ⟨k, ws, n, d, rfl, _⟩ := h; rfl
  · obtain ⟨k, ws, n, d, rfl, p0, p1, p2, p3, p4, h⟩ := h
    refine Left.mk ?_
    simp [argsOf, and_assoc, po_Web_renamed, po_Game___init__, po_check_names]
    refine ⟨n, p0, p4.rg, p4.nd, p4.len, by omega, fun i acc => ∃ vs : List (List Ar), acc = vs.map (webD k) ∧ Paired (fun w v => List.Perm v (w.map (Ar.ren n))) (ws.take i) vs, ⟨[], rfl, .nil⟩, ?_, ?_⟩
    · rintro i e acc w hw rfl ⟨vs, rfl, pv⟩
      have ok := p2 w (mem_get hw)
      refine ⟨⟨_, _, rfl⟩, k, w, rfl, n, rfl, p1.1, p1.2, ok.ok, ok.nd, Nat.le_trans ok.few (by decide), p4.rg, p4.nd, p4.len, fun br pm => ⟨vs ++ [br], by simp, ?_⟩⟩
      rw [take_next hw]
      exact pd_snoc pv pm
    · rintro acc ⟨vs, rfl, pv⟩
      rw [List.take_length] at pv
      exact ⟨vs, rfl, p1.1, p1.2, by rw [← Paired.length pv]; exact p3, h vs pv⟩
def po_Game___getitem__ : List D → (D → Prop) → Prop := fun ds P => ∃ (k i : Int) (ws : List (List Ar)) (w : List Ar), ds = [gameD k ws, .int i] ∧ 0 ≤ i ∧ ws[i.toNat]? = some w ∧ P (webD k w)
theorem sc_Game___getitem__ : FnScope ["self", "disc"] ["self", "disc"] (defScope s_Game___getitem__) := ⟨rfl, rfl, rfl, by decide +kernel, rfl, by decide +kernel, by decide +kernel⟩
theorem ok_Game___getitem__ (F : FnP K "__getitem__" "Game.__getitem__" s_Game___getitem__ f fd) (Z : Free mg) (U_is_below : Use T.prog T.w K mg base "is_below" 2 ["thing", "limit"] (spD T po_is_below) f0 fd0) : FnOk T.prog T.w K mg base CX0 3 f fd ["self", "disc"] (spD T po_Game___getitem__) := by
  have sc := sc_Game___getitem__
  refine okD (T := T) F sc (fun ds P h => ?_) fun cdv A outer s H E hr => ⟨_, (pss_cons (ps_if (pt_not (pt_val (pe_use U_is_below (hr.mono (by decide)) (by rfl) (pa_cons (pv 1) (pa_cons (pe_callB (c_lenK2 (K := K) rfl) (by rfl) Z.len bt_len (pa_cons (pe_fldK (K := K) rfl (pv 0) rfl) pa_nil)) pa_nil))))) (pss_one ps_never) pss_nil)
        (pss_one (ps_ret (pe_ix (ix_seqK (K := K) rfl) (pe_fldK (K := K) rfl (pv 0) rfl) (pv 1) (fun _ _ => rfl))))), fun ds P h => ?_⟩
  · obtain ⟨k, i, ws, w, rfl, _⟩ := h; rfl
  · obtain ⟨k, i, ws, w, rfl, p0, p1, h⟩ := h
    refine Left.mk ?_
    simp [argsOf, and_assoc, po_is_below]
    have := (List.getElem?_eq_some_iff.mp p1).1
    exact ⟨p0, by omega, i.toNat, by omega, _, ⟨w, p1, rfl⟩, h⟩
def po_check_game : List D → (D → Prop) → Prop := fun ds P => ∃ (k : Int) (ws : List D), ds = [.game k ws] ∧ P (.game k ws)
theorem sc_check_game : FnScope ["game"] ["game"] (defScope s_check_game) := ⟨rfl, rfl, rfl, by decide +kernel, rfl, by decide +kernel, by decide +kernel⟩
theorem ok_check_game (F : FnP K "check_game" "check_game" s_check_game f fd) (Z : Free mg) (m_Game : mg "Game" = some (.ref T.CG)) : FnOk T.prog T.w K mg base CX0 1 f fd ["game"] (spD T po_check_game) := by
  have sc := sc_check_game
  refine okD (T := T) F sc (fun ds P h => ?_) fun cdv A outer s H E hr => ⟨_, (pss_cons (ps_if (pt_not (pt_val (pe_callB (isi2 (K := K) rfl) (by rfl) Z.isinstance bt_isinstance (pa_cons (pv 0) (pa_cons (pe_glob (v := .ref T.CG) rfl m_Game rfl) pa_nil))))) (pss_one ps_never) pss_nil)
        (pss_one (ps_ret (pv 0)))), fun ds P h => ?_⟩
  · obtain ⟨k, ws, rfl, _⟩ := h; rfl
  · obtain ⟨k, ws, rfl, h⟩ := h
    refine Left.mk ?_
    simpa [argsOf] using h
def po_check_position : List D → (D → Prop) → Prop := fun ds P => ∃ (k : Int) (ws : List (List Ar)) (p : List Int) (d : D), ds = [gameD k ws, d] ∧ (d = intsT p ∨ d = intsL p) ∧ PosOk k ws.length p ∧ P (intsT p)
theorem sc_check_position : FnScope ["game", "position", "disc", "peg"] ["game", "position"] (defScope s_check_position) := ⟨rfl, rfl, rfl, by decide +kernel, rfl, by decide +kernel, by decide +kernel⟩
theorem ok_check_position (F : FnP K "check_position" "check_position" s_check_position f fd) (Z : Free mg) (U_is_below : Use T.prog T.w K mg base "is_below" 2 ["thing", "limit"] (spD T po_is_below) f0 fd0) (U_check_game : Use T.prog T.w K mg base "check_game" 1 ["game"] (spD T po_check_game) f1 fd1) : FnOk T.prog T.w K mg base CX0 3 f fd ["game", "position"] (spD T po_check_position) := by
  have sc := sc_check_position
  refine okD (T := T) F sc (fun ds P h => ?_) fun cdv A outer s H E hr => ⟨_, (pss_cons (ps_expr (pe_use U_check_game (hr.mono (by decide)) (by rfl) (pa_cons (pv 0) pa_nil)))
        (pss_cons (ps_if (PW.pt (pw_or (pt_not (pt_val (pe_callB (isiT2 (K := K) rfl) (by rfl) Z.isinstance bt_isinstance (pa_cons (pv 1) (pa_cons (pe_tup (pa_cons (pe_bltn (v := .ty "list") (by rfl) Z.list bt_list rfl) (pa_cons (pe_bltn (v := .ty "tuple") (by rfl) Z.tuple bt_tuple rfl) pa_nil))) pa_nil))))) (pw_or1 (pt_cmpR (o_neK (K := K) rfl (hu64 hr)) (pe_callB (c_lenK2 (K := K) rfl) (by rfl) Z.len bt_len (pa_cons (pv 1) pa_nil)) (pe_fldK (K := K) rfl (pv 0) rfl) (nomark _))))) (pss_one ps_never) pss_nil)
        (pss_cons (ps_for PassesOwn.never rfl (pi_enumA (by rfl) Z.enumerate (pa_cons (pv 1) pa_nil)) (pg_tupK (K := K) (n := 2) rfl rfl (pgs_cons (pg_name (i := 2) sc.nd rfl (by first | exact Or.inl rfl | exact Or.inr rfl)) (pgs_cons (pg_name (i := 3) sc.nd rfl (by first | exact Or.inl rfl | exact Or.inr rfl)) pgs_nil))) (pss_one (ps_if (pt_not (pt_val (pe_use U_is_below (hr.mono (by decide)) (by rfl) (pa_cons (pv 3) (pa_cons (pe_fldK (K := K) rfl (pv 0) rfl) pa_nil))))) (pss_one ps_never) pss_nil)))
        (pss_one (ps_ret (pe_callTy (c_tuple2 (K := K) rfl) (by rfl) Z.tuple bt_tuple (pa_cons (pv 1) pa_nil))))))), fun ds P h => ?_⟩
  · obtain ⟨k, ws, p, d, rfl, _⟩ := h; rfl
  · obtain ⟨k, ws, p, d, rfl, p0, p1, h⟩ := h
    refine Left.mk ?_
    have hl := p1.len
    simp [argsOf, and_assoc, po_is_below, po_check_game]
    refine ⟨⟨_, p0.symm⟩, p.map .int, p0.symm, by simp [hl], p.map .int, p0.symm, fun i ρ => ∃ o2 o3, ρ = [some (.v (gameD k ws)), some (.v d), o2, o3], ⟨_, _, rfl⟩, ?_, ?_⟩
    · rintro i e ρ hx ⟨o2, o3, rfl⟩
      obtain ⟨y, hy, rfl⟩ := enumD_some hx
      obtain ⟨x, hx', rfl⟩ := get_intD hy
      have xr := p1.rg x (mem_get hx')
      exact ⟨_, rfl, rfl, _, _, rfl, _, _, rfl, rfl, _, rfl, _, rfl, k, ⟨_, .inr rfl⟩, x, rfl, xr.1, xr.2, _, _, rfl⟩
    · rintro ρ ⟨o2, o3, rfl⟩
      exact ⟨_, rfl, p.map .int, p0.symm, h⟩
def po_ends_of : List D → (D → Prop) → Prop := fun ds P => ∃ (rs : List Ar), ds = [.lst (rs.map Ar.d)] ∧ rs.length ≤ 1000 ∧ P (.lst (rs.map fun r => prD r.pr))
theorem sc_ends_of : FnScope ["arrows", "arrow"] ["arrows"] (defScope s_ends_of) := ⟨rfl, rfl, rfl, by decide +kernel, rfl, by decide +kernel, by decide +kernel⟩
theorem ok_ends_of (F : FnP K "ends_of" "ends_of" s_ends_of f fd) (Z : Free mg)  : FnOk T.prog T.w K mg base CX0 1 f fd ["arrows"] (spD T po_ends_of) := by
  have sc := sc_ends_of
  refine okD (T := T) F sc (fun ds P h => ?_) fun cdv A outer s H E hr => ⟨_, (pss_one (ps_ret (pe_lc (own := [("arrow", 1)]) rfl sc.nd (pi_seqK (K := K) rfl (pv 0)) (blkOk_by (N := ["arrows", "arrow"]) (sc := defScope s_ends_of) (by decide +kernel)) (fun _ _ _ _ _ => (pg_name (i := 1) sc.nd rfl (by first | exact Or.inl rfl | exact Or.inr rfl))) (fun _ _ _ _ _ => pts_nil) (fun _ _ _ _ _ => (pe_tup (pa_cons (pe_ix (ix_seqK (K := K) rfl) (pv 1) pe_int (fun _ _ => rfl)) (pa_cons (pe_ix (ix_seqK (K := K) rfl) (pv 1) pe_int (fun _ _ => rfl)) pa_nil))))))), fun ds P h => ?_⟩
  · obtain ⟨rs, rfl, _⟩ := h; rfl
  · obtain ⟨rs, rfl, p0, h⟩ := h
    refine Left.mk ?_
    simp [argsOf, and_assoc]
    refine ⟨by omega, fun i acc => acc = (rs.take i).map fun r => prD r.pr, by simp, ?_, ?_⟩
    · rintro i e acc r hr' rfl rfl
      refine ⟨_, .inr rfl, 0, rfl, _, rfl, _, .inr rfl, 1, rfl, _, rfl, ?_⟩
      show _ = _
      rw [take_next hr', List.map_append]
      rfl
    · rintro acc rfl
      rw [List.take_length]
      exact h
def po_led : List D → (D → Prop) → Prop := fun ds P => ∃ (ps : Prs) (x : Int), ds = [.lst (ps.map prD), .int x] ∧ ps.length ≤ 1000 ∧ (∀ F : List Int, F.Nodup → (∀ y, y ∈ F ↔ LeadP ps x y) → P (intsL F))
theorem sc_led : FnScope ["pairs", "peg", "found", "at", "start", "stop"] ["pairs", "peg"] (defScope s_led) := ⟨rfl, rfl, rfl, by decide +kernel, rfl, by decide +kernel, by decide +kernel⟩
theorem ok_led (F : FnP K "led" "led" s_led f fd) (Z : Free mg)  : FnOk T.prog T.w K mg base CX0 1 f fd ["pairs", "peg"] (spD T po_led) := by
  have sc := sc_led
  refine okD (T := T) F sc (fun ds P h => ?_) fun cdv A outer s H E hr => ⟨_, (pss_cons (ps_parA (ps_par (by rfl) sc.nd (i := 2) (j := 3) rfl rfl (by decide) rfl rfl (pa_cons (pe_lst (pa_cons (pv 1) pa_nil)) (pa_cons pe_int pa_nil)) (by rfl)))
        (pss_cons (ps_while PassesOwn.never (pt_bor 2 (pt_cmpR o_lt (pv 3) (pe_callB (c_lenK2 (K := K) rfl) (by rfl) Z.len bt_len (pa_cons (pv 2) pa_nil)) (nomark _))) (pss_cons (ps_for PassesOwn.never rfl (pi_seqK (K := K) rfl (pv 0)) (pg_tupK (K := K) (n := 2) rfl rfl (pgs_cons (pg_name (i := 4) sc.nd rfl (by first | exact Or.inl rfl | exact Or.inr rfl)) (pgs_cons (pg_name (i := 5) sc.nd rfl (by first | exact Or.inl rfl | exact Or.inr rfl)) pgs_nil))) (pss_one (ps_if (pt_bor 2 (PW.pt (pw_and (pt_cmpR (o_eqK (K := K) rfl (hu64 hr)) (pv 4) (pe_ix (ix_seqK (K := K) rfl) (pv 2) (pv 3) (fun _ _ => rfl)) (nomark _)) (pw_and1 (pt_cmpR (o_notInK (K := K) rfl (hu65 hr)) (pv 5) (pv 2) (by rfl)))))) (pss_one (ps_expr (pe_bm PySem.F.plainAttrs_list PySem.F.slot_list_append PySem.F.type_list_append mt_append (pv 2) (pa_cons (pv 5) pa_nil)))) pss_nil)))
        (pss_one (ps_aug (i := 3) sc.nd rfl (by first | exact Or.inl rfl | exact Or.inr rfl) pe_int ip_add))))
        (pss_one (ps_ret (pvo 2 (pv 2)))))), fun ds P h => ?_⟩
  · obtain ⟨ps, x, rfl, _⟩ := h; rfl
  · obtain ⟨ps, x, rfl, p0, h⟩ := h
    refine Left.mk ?_
    simp [argsOf, and_assoc]
    refine ⟨fun m ρ => ∃ (F : List Int) (n : Nat) (o4 o5 : Option Kn), ρ = [some (.v (.lst (ps.map prD))), some (.v (.int x)), some (.o (F.map .int)), some (.v (.int n)), o4, o5] ∧ LI ps x F n ∧ n ≤ F.length ∧ m + n = ps.length + 2, ⟨_, [x], 0, _, _, rfl, LI.start ps x, by simp, rfl⟩, ?_⟩
    rintro m ρ ⟨F, n, o4, o5, rfl, hF, hn, hm⟩
    refine ⟨_, rfl, _, rfl, _, rfl, F.map .int, .inl rfl, n, rfl, ?_⟩
    rw [List.length_map]
    have hlen := hF.len
    split
    · rename_i hlt
      have hlt : n < F.length := by omega
      obtain ⟨u, hu⟩ : ∃ u, F[n]? = some u := ⟨F[n], List.getElem?_eq_getElem hlt⟩
      refine ⟨_, rfl, ps.map prD, .inl rfl, fun i ρ => ∃ (G : List Int) (o4 o5 : Option Kn), ρ = [some (.v (.lst (ps.map prD))), some (.v (.int x)), some (.o (G.map .int)), some (.v (.int n)), o4, o5] ∧ LI ps x G n ∧ n < G.length ∧ G[n]? = some u ∧ ∀ y, (u, y) ∈ ps.take i → y ∈ G, ⟨F, _, _, rfl, hF, hlt, hu, by simp⟩, ?_, ?_⟩
      · rintro i e ρ hx ⟨G, o4, o5, rfl, hG, hlt2, hu2, hs⟩
        obtain ⟨⟨a, b⟩, hp, rfl⟩ := get_map hx
        have hG' := hG.len
        simp [and_assoc, prD]
        refine ⟨n, rfl, .int u, ⟨u, hu2, rfl⟩, eqOk_int _ _, ?_⟩
        by_cases hab : a = u
        · subst hab
          rw [if_pos rfl]
          by_cases hb : b ∈ G
          · exact .inl ⟨hb, G, rfl, hG, hlt2, hu2, seen_next hp hs fun _ => hb⟩
          · refine .inr ⟨fun z hz e => hb (e ▸ hz), by omega, G ++ [b], by simp, hG.add (by omega) (mem_get hu2) (mem_get hp) hb, by simp; omega, by rw [List.getElem?_append_left hlt2]; exact hu2, seen_next hp (fun y hy => List.mem_append_left _ (hs y hy)) fun _ => by simp⟩
        · rw [if_neg fun e => hab (D.int.inj e)]
          exact ⟨G, rfl, hG, hlt2, hu2, seen_next hp hs fun e => absurd e hab⟩
      · rintro ρ ⟨G, o4, o5, rfl, hG, hlt2, hu2, hs⟩
        rw [List.length_map, List.take_length] at hs
        have hG' := (hG.next hu2 hs).len
        simp [and_assoc]
        exact ⟨m - 1, by omega, G, rfl, n + 1, by omega, hG.next hu2 hs, by omega, by omega⟩
    · rename_i hge
      exact ⟨_, rfl, h F hF.nd (hF.fin (by omega))⟩
def po_tied_by : List D → (D → Prop) → Prop := fun ds P => ∃ (ps : Prs) (x : Int), ds = [.lst (ps.map prD), .int x] ∧ ps.length ≤ 1000 ∧ (∀ R : List Int, TiedP ps x R → P (intsT R))
theorem sc_tied_by : FnScope ["pairs", "peg", "back", "start", "stop", "other"] ["pairs", "peg"] (defScope s_tied_by) := ⟨rfl, rfl, rfl, by decide +kernel, rfl, by decide +kernel, by decide +kernel⟩
theorem ok_tied_by (F : FnP K "tied_by" "tied_by" s_tied_by f fd) (Z : Free mg) (U_led : Use T.prog T.w K mg base "led" 1 ["pairs", "peg"] (spD T po_led) f0 fd0) : FnOk T.prog T.w K mg base CX0 2 f fd ["pairs", "peg"] (spD T po_tied_by) := by
  have sc := sc_tied_by
  refine okD (T := T) F sc (fun ds P h => ?_) fun cdv A outer s H E hr => ⟨_, (pss_cons (ps_set (i := 2) sc.nd rfl (by first | exact Or.inl rfl | exact Or.inr rfl) (pe_use U_led (hr.mono (by decide)) (by rfl) (pa_cons (pe_lc (own := [("start", 3), ("stop", 4)]) rfl sc.nd (pi_seqK (K := K) rfl (pv 0)) (blkOk_by (N := ["pairs", "peg", "back", "start", "stop", "other"]) (sc := defScope s_tied_by) (by decide +kernel)) (fun _ _ _ _ _ => (pg_tupK (K := K) (n := 2) rfl rfl (pgs_cons (pg_name (i := 3) sc.nd rfl (by first | exact Or.inl rfl | exact Or.inr rfl)) (pgs_cons (pg_name (i := 4) sc.nd rfl (by first | exact Or.inl rfl | exact Or.inr rfl)) pgs_nil)))) (fun _ _ _ _ _ => pts_nil) (fun _ _ _ _ _ => (pe_tup (pa_cons (pv 4) (pa_cons (pv 3) pa_nil))))) (pa_cons (pv 1) pa_nil))))
        (pss_one (ps_ret (pe_callTy (c_tuple2 (K := K) rfl) (by rfl) Z.tuple bt_tuple (pa_cons (pe_callB (c_sort2 (T := T) (K := K) rfl ⟨rfl, rfl⟩ rfl (hu65 hr)) (by rfl) Z.sorted bt_sorted (pa_cons (pe_lc (own := [("other", 5)]) rfl sc.nd (pi_seqK (K := K) rfl (pe_use U_led (hr.mono (by decide)) (by rfl) (pa_cons (pv 0) (pa_cons (pv 1) pa_nil)))) (blkOk_by (N := ["pairs", "peg", "back", "start", "stop", "other"]) (sc := defScope s_tied_by) (by decide +kernel)) (fun _ _ _ _ _ => (pg_name (i := 5) sc.nd rfl (by first | exact Or.inl rfl | exact Or.inr rfl))) (fun _ _ _ _ _ => (pts_one (pt_cmpR (o_inK (K := K) rfl (hu65 hr)) (pv 5) (pv 2) (by rfl)))) (fun _ _ _ _ _ => (pv 5))) pa_nil)) pa_nil))))), fun ds P h => ?_⟩
  · obtain ⟨ps, x, rfl, _⟩ := h; rfl
  · obtain ⟨ps, x, rfl, p0, h⟩ := h
    refine Left.mk ?_
    simp [argsOf, and_assoc, po_led]
    refine ⟨by omega, fun i acc => acc = (ps.take i).map fun p => prD (p.2, p.1), by simp, ?_, ?_⟩
    · rintro i e acc a b hp rfl rfl
      refine ⟨_, rfl, rfl, _, _, rfl, _, _, rfl, rfl, ?_⟩
      show _ = _
      rw [take_next hp, List.map_append]
      rfl
    · rintro acc rfl
      refine ⟨ps.map fun p => (p.2, p.1), by rw [List.take_length, List.map_map]; rfl, by simpa using p0, fun B hBn hB => ⟨ps, rfl, p0, fun F hFn hF => ⟨?_, fun i acc => acc = ((F.take i).filter fun y => decide (y ∈ B)).map .int, by simp, ?_, ?_⟩⟩⟩
      · have := nodup_le (l2 := x :: ps.map (·.2)) hFn fun y hy => lead_sub ((hF y).mp hy)
        simp at this
        omega
      · rintro i e acc y hy rfl rfl
        refine ⟨by simp, ?_⟩
        by_cases hb : y ∈ B
        · rw [if_pos ⟨y, hb, rfl⟩]
          show _ = _
          rw [take_next hy, List.filter_append, List.map_append]
          simp [hb]
        · rw [if_neg fun ⟨z, hz, e⟩ => hb (D.int.inj e ▸ hz)]
          show _ = _
          rw [take_next hy, List.filter_append, List.map_append]
          simp [hb]
      · rintro acc rfl
        rw [List.take_length]
        refine ⟨sortOk_ints _, fun fs pm pw => ?_⟩
        rw [perm_ints pm pw]
        refine h _ ⟨srt_lt (hFn.filter _), fun y => ?_⟩
        rw [(srt_perm _).mem_iff, List.mem_filter, hF, decide_eq_true_eq, hB, lead_flip]
def po_many_in : List D → (D → Prop) → Prop := fun ds P => ∃ (Ss : List (List Int)) (d : D), ds = [d] ∧ (d = .tup (Ss.map intsT) ∨ d = .lst (Ss.map intsT)) ∧ (∀ R ∈ Ss, R.length ≤ 5) ∧ Ss.length ≤ 40 ∧ P (.int (prod Ss))
theorem sc_many_in : FnScope ["sets", "size", "pegs"] ["sets"] (defScope s_many_in) := ⟨rfl, rfl, rfl, by decide +kernel, rfl, by decide +kernel, by decide +kernel⟩
theorem ok_many_in (F : FnP K "many_in" "many_in" s_many_in f fd) (Z : Free mg)  : FnOk T.prog T.w K mg base CX0 1 f fd ["sets"] (spD T po_many_in) := by
  have sc := sc_many_in
  refine okD (T := T) F sc (fun ds P h => ?_) fun cdv A outer s H E hr => ⟨_, (pss_cons (ps_set (i := 1) sc.nd rfl (by first | exact Or.inl rfl | exact Or.inr rfl) pe_int)
        (pss_cons (ps_for PassesOwn.never rfl (pi_seqK (K := K) rfl (pv 0)) (pg_name (i := 2) sc.nd rfl (by first | exact Or.inl rfl | exact Or.inr rfl)) (pss_one (ps_set (i := 1) sc.nd rfl (by first | exact Or.inl rfl | exact Or.inr rfl) (pe_op o_mul (pv 1) (pe_callB (c_lenK2 (K := K) rfl) (by rfl) Z.len bt_len (pa_cons (pv 2) pa_nil))))))
        (pss_one (ps_ret (pv 1))))), fun ds P h => ?_⟩
  · obtain ⟨Ss, d, rfl, _⟩ := h; rfl
  · obtain ⟨Ss, d, rfl, p0, p1, p2, h⟩ := h
    refine Left.mk ?_
    simp [argsOf, and_assoc]
    refine ⟨Ss.map intsT, p0.symm, fun i ρ => ∃ o, ρ = [some (.v d), some (.v (.int (prod (Ss.take i)))), o], ⟨_, rfl⟩, ?_, ?_⟩
    · rintro i e ρ hx ⟨o, rfl⟩
      obtain ⟨R, hR, rfl⟩ := get_map hx
      refine ⟨_, rfl, _, rfl, R.map .int, .inr rfl, _, rfl, (by have := p1 R (mem_get hR); rw [List.length_map]; exact .inr ⟨by omega, by omega⟩), some (.v (intsT R)), ?_⟩
      rw [take_next hR, prod_snoc, List.length_map]
      rfl
    · rintro ρ ⟨o, rfl⟩
      refine ⟨_, rfl, ?_⟩
      rw [List.length_map, List.take_length]
      exact h
def po_is_within : List D → (D → Prop) → Prop := fun ds P => ∃ (p : List Int) (Ss : List (List Int)), ds = [intsT p, .tup (Ss.map intsT)] ∧ p.length ≤ 40 ∧ P (.bl (inBox p Ss))
theorem sc_is_within : FnScope ["position", "sets", "peg", "pegs"] ["position", "sets"] (defScope s_is_within) := ⟨rfl, rfl, rfl, by decide +kernel, rfl, by decide +kernel, by decide +kernel⟩
theorem ok_is_within (F : FnP K "is_within" "is_within" s_is_within f fd) (Z : Free mg)  : FnOk T.prog T.w K mg base CX0 1 f fd ["position", "sets"] (spD T po_is_within) := by
  have sc := sc_is_within
  refine okD (T := T) F sc (fun ds P h => ?_) fun cdv A outer s H E hr => ⟨_, (pss_one (ps_ret (pe_callB (c_all2 (K := K) rfl rfl) (by rfl) Z.all bt_all (pa_cons (pe_lc (own := [("peg", 2), ("pegs", 3)]) rfl sc.nd (RZ.pi_zipA (by rfl) Z.zip (pa_cons (pv 0) (pa_cons (pv 1) pa_nil))) (blkOk_by (N := ["position", "sets", "peg", "pegs"]) (sc := defScope s_is_within) (by decide +kernel)) (fun _ _ _ _ _ => (pg_tupK (K := K) (n := 2) rfl rfl (pgs_cons (pg_name (i := 2) sc.nd rfl (by first | exact Or.inl rfl | exact Or.inr rfl)) (pgs_cons (pg_name (i := 3) sc.nd rfl (by first | exact Or.inl rfl | exact Or.inr rfl)) pgs_nil)))) (fun _ _ _ _ _ => pts_nil) (fun _ _ _ _ _ => (pe_cmpR (o_inK (K := K) rfl (hu65 hr)) (pv 2) (pv 3) (by rfl)))) pa_nil)))), fun ds P h => ?_⟩
  · obtain ⟨p, Ss, rfl, _⟩ := h; rfl
  · obtain ⟨p, Ss, rfl, p0, h⟩ := h
    refine Left.mk ?_
    simp [argsOf, and_assoc]
    refine ⟨by rw [zipD_eq, List.length_map, List.length_zip]; omega, fun i acc => acc = ((p.zip Ss).take i).map fun q => .bl (decide (q.1 ∈ q.2)), by simp, ?_, ?_⟩
    · rintro i e acc hx rfl
      rw [zipD_eq] at hx
      obtain ⟨⟨x, R⟩, hq, rfl⟩ := get_map hx
      refine ⟨_, rfl, rfl, _, _, rfl, _, _, rfl, rfl, R.map .int, .inr rfl, by simp, by simp, ?_⟩
      show _ = _
      rw [take_next hq, List.map_append]
      simp
    · rintro acc rfl
      refine ⟨(p.zip Ss).map fun q => decide (q.1 ∈ q.2), ?_, ?_⟩
      · rw [zipD_eq, List.length_map, List.take_length, List.map_map]; rfl
      · rw [List.all_map]
        exact h
end
end
end DL
namespace DL
open PySem L2 PyProof.Rows
noncomputable section
section
variable {T : Tx} {K : PySem.W.Frag} {mg : Str → Option Value} {base : Heap} {f f0 f1 f2 f3 f4 f5 f6 f7 : Addr} {fd fd0 fd1 fd2 fd3 fd4 fd5 fd6 fd7 : FuncData} [ci : CI T K] [n1 : NoF "turned"] [n2 : NoF "renamed"] [n3 : NoF "guards"]
def po_Game_guards : List D → (D → Prop) → Prop := fun ds P => ∃ (k : Int) (ws : List (List Ar)), ds = [gameD k ws] ∧ (3 ≤ k ∧ k ≤ 5) ∧ WsOk k ws ∧ ws.length ≤ 40 ∧ (∀ gs : List (List Int), gs.length ≤ 32 → (∀ g, g ∈ gs ↔ ∃ w ∈ ws, ∃ r ∈ w, r.g = g) → P (.tup (gs.map intsT)))
theorem sc_Game_guards : FnScope ["self", "web", "arrow"] ["self"] (defScope s_Game_guards) := ⟨rfl, rfl, rfl, by decide +kernel, rfl, by decide +kernel, by decide +kernel⟩
theorem ok_Game_guards (F : FnP K "guards" "Game.guards" s_Game_guards f fd) (Z : Free mg)  : FnOk T.prog T.w K mg base CX0 1 f fd ["self"] (spD T po_Game_guards) := by
  have sc := sc_Game_guards
  refine okD (T := T) F sc (fun ds P h => ?_) fun cdv A outer s H E hr => ⟨_, (pss_one (ps_ret (pe_callTy (c_tuple2 (K := K) rfl) (by rfl) Z.tuple bt_tuple (pa_cons (pe_callB (c_sortS2 (T := T) ⟨rfl, rfl⟩ rfl (hu65 hr)) (by rfl) Z.sorted bt_sorted (pa_cons (pe_sc2K (T := T) (K := K) rfl ⟨rfl, rfl⟩ rfl (hu64 hr) (own := [("web", 1), ("arrow", 2)]) (vs1 := [2]) sc.nd (pi_seqK (K := K) rfl (pe_fldK (K := K) rfl (pv 0) rfl)) (blkOk_by (N := ["self", "web", "arrow"]) (sc := defScope s_Game_guards) (by decide +kernel)) (by simp) (fun _ _ _ _ _ => (pg_name (i := 1) sc.nd rfl (by first | exact Or.inl rfl | exact Or.inr rfl))) (fun _ _ _ _ _ => (pi_seqK (K := K) rfl (pe_fldK (K := K) rfl (pv 1) rfl))) (fun _ _ _ _ _ => (pg_name (i := 2) sc.nd rfl (by first | exact Or.inl rfl | exact Or.inr rfl))) (fun _ _ _ _ _ => (pe_ix (ix_seqK (K := K) rfl) (pv 2) pe_int (fun _ _ => rfl)))) pa_nil)) pa_nil)))), fun ds P h => ?_⟩
  · obtain ⟨k, ws, rfl, _⟩ := h; rfl
  · obtain ⟨k, ws, rfl, p0, p1, p2, h⟩ := h
    refine Left.mk ?_
    simp [argsOf, and_assoc]
    refine ⟨fun i acc => acc.Nodup ∧ (∀ g ∈ acc, GOk k g) ∧ ∀ g, g ∈ acc ↔ ∃ w ∈ ws.take i, ∃ r ∈ w, r.g = g, ⟨.nil, fun g hg => (nomatch hg), fun g => by simp⟩, ?_, ?_⟩
    · rintro i e acc w hw rfl ⟨a1, a2, a3⟩
      have ok := p1 w (mem_get hw)
      refine ⟨k, w.map Ar.d, rfl, fun j acc1 => acc1.Nodup ∧ (∀ g ∈ acc1, GOk k g) ∧ ∀ g, g ∈ acc1 ↔ (∃ w ∈ ws.take i, ∃ r ∈ w, r.g = g) ∨ ∃ r ∈ w.take j, r.g = g, ⟨a1, a2, fun g => by rw [a3]; simp⟩, ?_, ?_⟩
      · rintro j e acc1 he ⟨b1, b2, b3⟩
        obtain ⟨r, hr', rfl⟩ := get_map he
        have gr := (ok.ok r (mem_get hr')).g
        have few := guards_few p0.2 b1 b2
        refine ⟨_, .inr rfl, 2, rfl, _, rfl, r.g, rfl, by omega, fun acc2 h1 h2 => ?_⟩
        have key : ∀ g, (∃ s ∈ w.take (j + 1), s.g = g) ↔ (∃ s ∈ w.take j, s.g = g) ∨ r.g = g := fun g => by
          rw [take_next hr']
          constructor
          · rintro ⟨s, hs, e⟩
            rcases List.mem_append.mp hs with hs | hs
            · exact .inl ⟨s, hs, e⟩
            · rw [List.mem_singleton.mp hs] at e; exact .inr e
          · rintro (⟨s, hs, e⟩ | e)
            · exact ⟨s, List.mem_append_left _ hs, e⟩
            · exact ⟨r, by simp, e⟩
        by_cases hin : r.g ∈ acc1
        · rw [h1 hin]
          refine ⟨b1, b2, fun g => ?_⟩
          rw [b3, key]
          constructor
          · rintro (h | h)
            · exact .inl h
            · exact .inr (.inl h)
          · rintro (h | h | h)
            · exact .inl h
            · exact .inr h
            · rw [← h]; exact (b3 r.g).mp hin
        · have pm := h2 hin
          refine ⟨pm.nodup_iff.mpr (List.nodup_cons.mpr ⟨hin, b1⟩), fun g hg => ?_, fun g => ?_⟩
          · rcases List.mem_cons.mp (pm.mem_iff.mp hg) with rfl | hg
            · exact gr
            · exact b2 g hg
          · rw [pm.mem_iff, List.mem_cons, b3, key]
            constructor
            · rintro (h | h | h)
              · exact .inr (.inr h.symm)
              · exact .inl h
              · exact .inr (.inl h)
            · rintro (h | h | h)
              · exact .inr (.inl h)
              · exact .inr (.inr h)
              · exact .inl h.symm
      · rintro acc1 ⟨b1, b2, b3⟩
        rw [List.length_map, List.take_length] at b3
        refine ⟨b1, b2, fun g => ?_⟩
        rw [b3, take_next hw]
        constructor
        · rintro (⟨v, hv, h⟩ | h)
          · exact ⟨v, List.mem_append_left _ hv, h⟩
          · exact ⟨w, by simp, h⟩
        · rintro ⟨v, hv, h⟩
          rcases List.mem_append.mp hv with hv | hv
          · exact .inl ⟨v, hv, h⟩
          · rw [List.mem_singleton.mp hv] at h; exact .inr h
    · rintro acc ⟨a1, a2, a3⟩
      rw [List.take_length] at a3
      have few := guards_few p0.2 a1 a2
      refine ⟨⟨fun d hd e he => ?_, fun d hd => ?_, .inl fun d hd => ?_⟩, fun fs pm => h fs (by rw [pm.length_eq]; exact few) fun g => by rw [pm.mem_iff, a3]⟩
      · obtain ⟨x, _, rfl⟩ := List.mem_map.mp hd
        obtain ⟨y, _, rfl⟩ := List.mem_map.mp he
        exact alike_tupI x y
      · obtain ⟨x, _, rfl⟩ := List.mem_map.mp hd
        simp [tupI]
      · obtain ⟨x, hx, rfl⟩ := List.mem_map.mp hd
        cases x with
        | nil => exact absurd rfl (a2 [] hx).ne
        | cons y ys => exact ⟨_, _, rfl⟩
end
end
end DL
namespace DL
open PySem L2 PyProof.Rows
noncomputable section
section
variable {T : Tx} {K : PySem.W.Frag} {mg : Str → Option Value} {base : Heap} {f f0 f1 f2 f3 f4 f5 f6 f7 : Addr} {fd fd0 fd1 fd2 fd3 fd4 fd5 fd6 fd7 : FuncData} [ci : CI T K] [n1 : NoF "turned"] [n2 : NoF "renamed"] [n3 : NoF "guards"]
def po_sets_at : List D → (D → Prop) → Prop := fun ds P => ∃ (k : Int) (ws : List (List Ar)) (p : List Int), ds = [gameD k ws, intsT p] ∧ (3 ≤ k ∧ k ≤ 5) ∧ WsOk k ws ∧ ws.length ≤ 40 ∧ PosOk k ws.length p ∧ (∀ Ss, SetsOk [] ws p Ss → ∀ d : D, P (.tup [.tup (Ss.map intsT), d]))
theorem sc_sets_at : FnScope ["game", "position", "met", "sets", "disc", "peg", "arrows", "arrow", "guard"] ["game", "position"] (defScope s_sets_at) := ⟨rfl, rfl, rfl, by decide +kernel, rfl, by decide +kernel, by decide +kernel⟩
theorem ok_sets_at (F : FnP K "sets_at" "sets_at" s_sets_at f fd) (Z : Free mg) (U_meets : Use T.prog T.w K mg base "meets" 1 ["guard", "pegs"] (spD T po_meets) f0 fd0) (U_tied_by : Use T.prog T.w K mg base "tied_by" 2 ["pairs", "peg"] (spD T po_tied_by) f1 fd1) (U_ends_of : Use T.prog T.w K mg base "ends_of" 1 ["arrows"] (spD T po_ends_of) f2 fd2) (U_Game_guards : UseM T.prog T.w K mg base T.CG "guards" 1 ["self"] (spD T po_Game_guards) f3 fd3) : FnOk T.prog T.w K mg base CX0 3 f fd ["game", "position"] (spD T po_sets_at) := by
  have sc := sc_sets_at
  refine okD (T := T) F sc (fun ds P h => ?_) fun cdv A outer s H E hr => ⟨_, (pss_cons (ps_asgB 2 3 (ps_asg (pe_tup (pa_cons (pe_callTy (c_list2 (K := K) rfl) (by rfl) Z.list bt_list (pa_cons (pe_meth0 (pv 0) ci.cG U_Game_guards.m U_Game_guards.ok (hr.mono (by decide)) U_Game_guards.b .nil pass0) pa_nil)) (pa_cons (pe_lst pa_nil) pa_nil))) (pg_tupK (K := K) (n := 2) rfl rfl (pgs_cons (pg_name (i := 2) sc.nd rfl (by first | exact Or.inl rfl | exact Or.inr rfl)) (pgs_cons (pg_name (i := 3) sc.nd rfl (by first | exact Or.inl rfl | exact Or.inr rfl)) pgs_nil)))))
        (pss_cons (ps_for PassesOwn.never rfl (pi_enumA (by rfl) Z.enumerate (pa_cons (pv 1) pa_nil)) (pg_tupK (K := K) (n := 2) rfl rfl (pgs_cons (pg_name (i := 4) sc.nd rfl (by first | exact Or.inl rfl | exact Or.inr rfl)) (pgs_cons (pg_name (i := 5) sc.nd rfl (by first | exact Or.inl rfl | exact Or.inr rfl)) pgs_nil))) (pss_cons (ps_setLc (i := 6) (own := [("arrow", 7)]) rfl sc.nd rfl rfl (sw_true rfl rfl rfl (by decide +kernel)) (pi_seqK (K := K) rfl (pe_fldK (K := K) rfl (pe_ix (ix_seqK (K := K) rfl) (pe_fldK (K := K) rfl (pv 0) rfl) (pv 4) (fun _ _ => rfl)) rfl)) (blkOk_by (N := ["game", "position", "met", "sets", "disc", "peg", "arrows", "arrow", "guard"]) (sc := defScope s_sets_at) (by decide +kernel)) (fun _ _ _ _ _ => (pg_name (i := 7) sc.nd rfl (by first | exact Or.inl rfl | exact Or.inr rfl))) (fun _ _ _ _ _ => (pts_one (pt_cmpR (o_inK (K := K) rfl (hu65 hr)) (pe_ix (ix_seqK (K := K) rfl) (pv 7) pe_int (fun _ _ => rfl)) (pv 2) (by rfl)))) (fun _ _ _ _ _ => (pv 7)))
        (pss_cons (ps_expr (pe_bm PySem.F.plainAttrs_list PySem.F.slot_list_append PySem.F.type_list_append mt_append (pv 3) (pa_cons (pe_use U_tied_by (hr.mono (by decide)) (by rfl) (pa_cons (pe_use U_ends_of (hr.mono (by decide)) (by rfl) (pa_cons (pv 6) pa_nil)) (pa_cons (pv 5) pa_nil))) pa_nil)))
        (pss_one (ps_set (i := 2) sc.nd rfl (by first | exact Or.inl rfl | exact Or.inr rfl) (pe_borL 3 (pe_lc (own := [("guard", 8)]) rfl sc.nd (pi_seqK (K := K) rfl (pv 2)) (blkOk_by (N := ["game", "position", "met", "sets", "disc", "peg", "arrows", "arrow", "guard"]) (sc := defScope s_sets_at) (by decide +kernel)) (fun _ _ _ _ _ => (pg_name (i := 8) sc.nd rfl (by first | exact Or.inl rfl | exact Or.inr rfl))) (fun _ _ _ _ _ => (pts_one (pt_val (pe_use U_meets (hr.mono (by decide)) (by rfl) (pa_cons (pv 8) (pa_cons (pe_ix (ix_seqK (K := K) rfl) (pv 3) (pv 4) (fun _ _ => rfl)) pa_nil)))))) (fun _ _ _ _ _ => (pv 8)))))))))
        (pss_one (ps_frz 3 (ps_ret (pe_tup (pa_cons (pe_callTy (c_tuple2 (K := K) rfl) (by rfl) Z.tuple bt_tuple (pa_cons (pv 3) pa_nil)) (pa_cons (pe_callTy (c_tuple2 (K := K) rfl) (by rfl) Z.tuple bt_tuple (pa_cons (pv 2) pa_nil)) pa_nil)))))))), fun ds P h => ?_⟩
  · obtain ⟨k, ws, p, rfl, _⟩ := h; rfl
  · obtain ⟨k, ws, p, rfl, p0, p1, p2, p3, h⟩ := h
    refine Left.mk ?_
    simp [argsOf, and_assoc, po_Game_guards, po_tied_by, po_ends_of, po_meets]
    refine ⟨ws, rfl, p0.1, p0.2, p1, p2, fun gs hgl hgs => ?_⟩
    refine ⟨fun i ρ => ∃ (Ss ms : List (List Int)) (o4 o5 o6 o7 o8 : Option Kn), ρ = [some (.v (gameD k ws)), some (.v (intsT p)), some (.v (.lst (ms.map intsT))), some (.o (Ss.map intsT)), o4, o5, o6, o7, o8] ∧ SetsOk [] (ws.take i) (p.take i) Ss ∧ ms.length ≤ 32 ∧ ∀ g, g ∈ ms ↔ g ∈ gs ∧ fitG g Ss = true, ⟨[], gs, _, _, _, _, _, rfl, .nil _, hgl, fun g => by simp [fitG]⟩, ?_, ?_⟩
    · rintro i e ρ hx ⟨Ss, ms, o4, o5, o6, o7, o8, rfl, hS, hml, hm⟩
      obtain ⟨y, hy, rfl⟩ := enumD_some hx
      obtain ⟨x, hx', rfl⟩ := get_intD hy
      have hi : i < ws.length := by have := (List.getElem?_eq_some_iff.mp hx').1; have := p3.len; omega
      obtain ⟨w, hw⟩ : ∃ w, ws[i]? = some w := ⟨ws[i], List.getElem?_eq_getElem hi⟩
      have ok := p1 w (mem_get hw)
      have hl : Ss.length = i := by have := hS.len.1; rw [List.length_take] at this; omega
      have few := ok.few
      simp [and_assoc]
      refine ⟨i, rfl, _, ⟨w, hw, rfl⟩, k, w.map Ar.d, rfl, by simp; omega, fun j acc => acc = ((w.take j).filter fun r => decide (r.g ∈ ms)).map Ar.d, by simp, ?_, ?_⟩
      · rintro j e acc he rfl
        obtain ⟨r, hr', rfl⟩ := get_map he
        refine ⟨_, .inr rfl, 2, rfl, _, rfl, by simp, fitA_map (fun g => by simp) ms, ?_⟩
        by_cases hg : r.g ∈ ms
        · rw [if_pos ⟨r.g, hg, rfl⟩]
          show _ = _
          rw [take_next hr', List.filter_append, List.map_append]
          simp [hg]
        · rw [if_neg fun ⟨z, hz, e⟩ => hg (by have := intD_inj (D.tup.inj e); rw [← this]; exact hz)]
          show _ = _
          rw [take_next hr', List.filter_append, List.map_append]
          simp [hg]
      · rintro acc rfl
        have eu : ((w.take (w.map Ar.d).length).filter fun r => decide (r.g ∈ ms)) = usable w Ss := by
          rw [List.length_map, List.take_length]
          refine List.filter_congr fun r hr' => ?_
          have q := (hm r.g).trans (and_iff_right ((hgs r.g).mpr ⟨w, mem_get hw, r, hr', rfl⟩))
          rw [Bool.eq_iff_iff, decide_eq_true_eq]
          exact q
        rw [eu]
        have ul : (usable w Ss).length ≤ 300 := Nat.le_trans (List.length_filter_le _ _) few
        refine ⟨usable w Ss, rfl, by omega, (usable w Ss).map Ar.pr, by rw [List.map_map]; rfl, by rw [List.length_map]; omega, fun R hR => ⟨by omega, by omega, fun j acc => acc = ((ms.take j).filter fun g => g.any fun y => decide (y ∈ R)).map intsT, by simp, ?_, ?_⟩⟩
        · rintro j e acc g hg rfl rfl
          refine ⟨i, rfl, intsT R, ?_, g, rfl, R, .inl rfl, ?_⟩
          · rw [List.getElem?_append_right (by simp [hl])]
            simp [hl]
          · by_cases hz : ∃ y, y ∈ g ∧ y ∈ R
            · have : (g.any fun y => decide (y ∈ R)) = true := by
                obtain ⟨y, h1, h2⟩ := hz
                exact List.any_eq_true.mpr ⟨y, h1, decide_eq_true h2⟩
              rw [if_pos hz]
              show _ = _
              rw [take_next hg, List.filter_append, List.map_append]
              simp [this]
            · have : (g.any fun y => decide (y ∈ R)) = false := by
                rw [Bool.eq_false_iff]
                intro z
                obtain ⟨y, h1, h2⟩ := List.any_eq_true.mp z
                exact hz ⟨y, h1, of_decide_eq_true h2⟩
              rw [if_neg hz]
              show _ = _
              rw [take_next hg, List.filter_append, List.map_append]
              simp [this]
        · rintro acc rfl
          rw [List.take_length]
          refine ⟨imA_map (fun g => by simp) _, Ss ++ [R], _, rfl, by simp, ?_, ?_, fun g => ?_⟩
          · rw [take_next hw, take_next hx']
            exact hS.snoc (by simpa using hR)
          · exact Nat.le_trans (List.length_filter_le _ _) hml
          · rw [List.mem_filter, hm, fitG_snoc, Bool.and_eq_true, and_assoc]
    · rintro ρ ⟨Ss, ms, o4, o5, o6, o7, o8, rfl, hS, hml, hm⟩
      have e1 : p.length = ws.length := p3.len
      have hS : SetsOk [] (ws.take p.length) (p.take p.length) Ss := by simpa using hS
      rw [List.take_length, e1, List.take_length] at hS
      exact ⟨_, rfl, _, rfl, Ss.map intsT, .inl rfl, _, rfl, ms.map intsT, .inl rfl, h Ss hS _⟩
end
end
end DL
/-! DJ: two statements that meet in between -/
namespace DL
open PySem L2 PyProof.Rows
noncomputable section
section
variable {T : Tx} {t u : TS} {q q' : PS1}
def tSeqJ (t u : TS) : TS := tSeq t u
theorem pss_consJ {X : Cx} {st : Stmt} {rest : List Stmt} (h1 : PS X st t) (h2 : PSs X rest u) : PSs X (st :: rest) (tSeqJ t u) := pss_cons h1 h2
@[reducible, simp] def qSeqJ (q q' : PS1) : PS1 := fun ρ F => ∃ J : En → Prop, q ρ { F with nx := J } ∧ ∀ ρ', J ρ' → q' ρ' F
instance [h1 : SS T t q] [h2 : SS T u q'] : SS T (tSeqJ t u) (qSeqJ q q') where
  run := fun {c L H H0 σ ρ F D} s e f h o => by
    obtain ⟨J, h, hJ⟩ := h
    exact h1.run (D := { D with nx := u D }) s e f h ⟨fun L' H' σ' ρ' s' e' f' h' => h2.run s' e' f' (hJ _ h') o, o.rt, o.bk, o.ct⟩
end
end
end DL
/-! M6: the sets of a position: bounds, what they depend on -/
namespace DL
open PySem L2 PyProof.Rows
noncomputable section
theorem few_ints {k : Int} (hk : k ≤ 5) {R : List Int} (hn : R.Nodup) (h : ∀ y ∈ R, 0 ≤ y ∧ y < k) : R.length ≤ 5 := by
  have := nodup_le (l2 := [0, 1, 2, 3, 4]) hn fun y hy => by
    have := h y hy
    have : y = 0 ∨ y = 1 ∨ y = 2 ∨ y = 3 ∨ y = 4 := by omega
    simpa using this
  simpa using this
theorem tied_rg {k : Int} {w : List Ar} {x : Int} {S : List Int} (hw : ∀ r ∈ w, 0 ≤ r.b ∧ r.b < k) (hx : 0 ≤ x ∧ x < k) (h : TiedP (w.map Ar.pr) x S) : ∀ y ∈ S, 0 ≤ y ∧ y < k := fun y hy => by
  have := lead_sub ((h.mem y).mp hy).1
  rcases List.mem_cons.mp this with rfl | q
  · exact hx
  · rw [List.map_map] at q
    obtain ⟨r, hr, rfl⟩ := List.mem_map.mp q
    exact hw r hr
theorem SetsOk.rg {k : Int} : ∀ {ws : List (List Ar)} {Ss : List (List Int)} {p : List Int} {R : List (List Int)}, SetsOk Ss ws p R → WsOk k ws → (∀ x ∈ p, 0 ≤ x ∧ x < k) → ∀ S ∈ R, ∀ y ∈ S, 0 ≤ y ∧ y < k
  | _, _, _, _, .nil _, _, _ => fun S hS => nomatch hS
  | _, _, _, _, .cons (w := w) t s, hw, hp => fun S hS => by
    rcases List.mem_cons.mp hS with rfl | hS
    · exact tied_rg (fun r hr => ((hw w List.mem_cons_self).ok r (List.mem_filter.mp hr).1).b) (hp _ List.mem_cons_self) t
    · exact s.rg (fun v hv => hw v (List.mem_cons_of_mem _ hv)) (fun x hx => hp x (List.mem_cons_of_mem _ hx)) S hS
theorem SetsOk.up : ∀ {ws : List (List Ar)} {Ss : List (List Int)} {p : List Int} {R : List (List Int)}, SetsOk Ss ws p R → ∀ S ∈ R, S.Pairwise (· < ·)
  | _, _, _, _, .nil _ => fun S hS => nomatch hS
  | _, _, _, _, .cons t s => fun S hS => by
    rcases List.mem_cons.mp hS with rfl | hS
    · exact t.up
    · exact s.up S hS
theorem SetsOk.few {k : Int} (hk : k ≤ 5) {ws : List (List Ar)} {Ss : List (List Int)} {p : List Int} {R : List (List Int)} (h : SetsOk Ss ws p R) (hw : WsOk k ws) (hp : ∀ x ∈ p, 0 ≤ x ∧ x < k) : ∀ S ∈ R, S.length ≤ 5 := fun S hS => few_ints hk (lt_nodup (h.up S hS)) (h.rg hw hp S hS)
theorem TiedP.self {ps : Prs} {x : Int} {S : List Int} (h : TiedP ps x S) : x ∈ S := (h.mem x).mpr ⟨.refl, .refl⟩
theorem SetsOk.inb : ∀ {ws : List (List Ar)} {Ss : List (List Int)} {p : List Int} {R : List (List Int)}, SetsOk Ss ws p R → inBox p R = true
  | _, _, _, _, .nil _ => rfl
  | _, _, _, _, .cons t s => by
    have := s.inb
    unfold inBox at this ⊢
    rw [List.zip_cons_cons, List.all_cons, this, decide_eq_true t.self]
    rfl
/-- there is one -/
theorem undup : ∀ l : List Int, ∃ m : List Int, m.Nodup ∧ ∀ y, y ∈ m ↔ y ∈ l
  | [] => ⟨[], .nil, fun _ => .rfl⟩
  | x :: l => by
    obtain ⟨m, h1, h2⟩ := undup l
    by_cases h : x ∈ m
    · refine ⟨m, h1, fun y => ?_⟩
      rw [h2, List.mem_cons]
      exact ⟨.inr, fun q => q.elim (fun e => (h2 y).mp (e ▸ h)) id⟩
    · exact ⟨x :: m, List.nodup_cons.mpr ⟨h, h1⟩, fun y => by rw [List.mem_cons, List.mem_cons, h2]⟩
theorem tied_ex (ps : Prs) (x : Int) : ∃ S, TiedP ps x S := by
  classical
  obtain ⟨m, m1, m2⟩ := undup (x :: ps.map (·.2))
  refine ⟨srt (m.filter fun y => decide (LeadP ps x y ∧ LeadP ps y x)), srt_lt (m1.filter _), fun y => ?_⟩
  rw [(srt_perm _).mem_iff, List.mem_filter, decide_eq_true_eq]
  exact ⟨And.right, fun h => ⟨(m2 y).mpr (lead_sub h.1), h⟩⟩
theorem SetsOk.ex : ∀ (ws : List (List Ar)) (Ss : List (List Int)) (p : List Int), p.length = ws.length → ∃ R, SetsOk Ss ws p R
  | [], Ss, [], _ => ⟨[], .nil _⟩
  | w :: ws, Ss, x :: p, h => by
    obtain ⟨S, hS⟩ := tied_ex ((usable w Ss).map Ar.pr) x
    obtain ⟨R, hR⟩ := SetsOk.ex ws (Ss ++ [S]) p (by simpa using h)
    exact ⟨_, .cons hS hR⟩
theorem lead_mono {ps qs : Prs} (h : ∀ q ∈ ps, q ∈ qs) {x y : Int} (l : LeadP ps x y) : LeadP qs x y := l.mono fun a b r => h _ r
theorem tied_congr {ps qs : Prs} (h : ∀ q, q ∈ ps ↔ q ∈ qs) {x : Int} {S : List Int} (t : TiedP ps x S) : TiedP qs x S :=
  ⟨t.up, fun y => (t.mem y).trans ⟨fun ⟨a, b⟩ => ⟨lead_mono (fun q => (h q).mp) a, lead_mono (fun q => (h q).mp) b⟩, fun ⟨a, b⟩ => ⟨lead_mono (fun q => (h q).mpr) a, lead_mono (fun q => (h q).mpr) b⟩⟩⟩
/-- the same marks -/
def Same (w v : List Ar) : Prop := ∀ m, m ∈ w.map Ar.mark ↔ m ∈ v.map Ar.mark
theorem same_perm {w v : List Ar} (h : v.Perm w) : Same w v := fun m => (h.map Ar.mark).mem_iff.symm
theorem Same.symm {w v : List Ar} (h : Same w v) : Same v w := fun m => (h m).symm
theorem Same.trans {w v u : List Ar} (h : Same w v) (h2 : Same v u) : Same w u := fun m => (h m).trans (h2 m)
theorem mem_use {w : List Ar} {Ss : List (List Int)} {q : Int × Int} : q ∈ (usable w Ss).map Ar.pr ↔ ∃ m ∈ w.map Ar.mark, fitG m.2.2 Ss = true ∧ q = (m.1, m.2.1) := by
  unfold usable
  simp only [List.mem_map, List.mem_filter]
  constructor
  · rintro ⟨r, ⟨h1, h2⟩, rfl⟩
    exact ⟨r.mark, ⟨r, h1, rfl⟩, h2, rfl⟩
  · rintro ⟨m, ⟨r, h1, rfl⟩, h2, rfl⟩
    exact ⟨r, ⟨h1, h2⟩, rfl⟩
theorem SetsOk.same : ∀ {ws vs : List (List Ar)} {Ss : List (List Int)} {p : List Int} {R : List (List Int)}, Paired Same ws vs → SetsOk Ss ws p R → SetsOk Ss vs p R
  | _, _, _, _, _, .nil, .nil _ => .nil _
  | _, _, _, _, _, .cons q pr, .cons t s => .cons (tied_congr (fun z => by
      rw [mem_use, mem_use]
      constructor
      · rintro ⟨m, h1, h2⟩; exact ⟨m, (q m).mp h1, h2⟩
      · rintro ⟨m, h1, h2⟩; exact ⟨m, (q m).mpr h1, h2⟩) t) (s.same pr)
/-- turned: the same sets -/
theorem use_turn (w : List Ar) (Ss : List (List Int)) : (usable (w.map Ar.turn) Ss).map Ar.pr = ((usable w Ss).map Ar.pr).map fun p => (p.2, p.1) := by
  unfold usable
  rw [List.filter_map, List.map_map, List.map_map]
  rfl
theorem tied_flip {ps : Prs} {x : Int} {S : List Int} (h : TiedP ps x S) : TiedP (ps.map fun p => (p.2, p.1)) x S :=
  ⟨h.up, fun y => by rw [h.mem, lead_flip, lead_flip]; exact And.comm⟩
theorem SetsOk.turn : ∀ {ws : List (List Ar)} {Ss : List (List Int)} {p : List Int} {R : List (List Int)}, SetsOk Ss ws p R → SetsOk Ss (ws.map fun w => w.map Ar.turn) p R
  | _, _, _, _, .nil _ => .nil _
  | _, _, _, _, .cons t s => .cons (by rw [use_turn]; exact tied_flip t) s.turn
/-- more arrows: greater sets -/
def Sub (w v : List Ar) : Prop := ∀ m, m ∈ w.map Ar.mark → m ∈ v.map Ar.mark
def LeS (Ss Rs : List (List Int)) : Prop := Paired (fun S R => ∀ y ∈ S, y ∈ R) Ss Rs
theorem fit_mono {g : List Int} : ∀ {Ss Rs : List (List Int)}, LeS Ss Rs → fitG g Ss = true → fitG g Rs = true
  | _, _, .nil, _ => rfl
  | _, _, .cons q t, h => by
    unfold fitG at h ⊢
    rw [List.all_cons, Bool.and_eq_true] at h ⊢
    refine ⟨?_, fit_mono t h.2⟩
    obtain ⟨y, h1, h2⟩ := List.any_eq_true.mp h.1
    exact List.any_eq_true.mpr ⟨y, h1, decide_eq_true (q y (of_decide_eq_true h2))⟩
theorem SetsOk.mono : ∀ {ws vs : List (List Ar)} {Ss Rs : List (List Int)} {p : List Int} {R R' : List (List Int)}, Paired Sub ws vs → LeS Ss Rs → SetsOk Ss ws p R → SetsOk Rs vs p R' → LeS R R'
  | _, _, _, _, _, _, _, .nil, _, .nil _, .nil _ => .nil
  | _, _, _, _, _, _, _, .cons q pr, le, .cons t s, .cons t' s' => by
    have key : ∀ z, z ∈ (usable _ _).map Ar.pr → z ∈ (usable _ _).map Ar.pr := fun z hz => by
      obtain ⟨m, h1, h2, h3⟩ := mem_use.mp hz
      exact mem_use.mpr ⟨m, q m h1, fit_mono le h2, h3⟩
    have one : ∀ y ∈ _, y ∈ _ := fun y hy => (t'.mem y).mpr ⟨lead_mono key ((t.mem y).mp hy).1, lead_mono key ((t.mem y).mp hy).2⟩
    exact .cons one (SetsOk.mono pr (pd_snoc le one) s s')
/-- renamed -/
theorem lead_ren {f : Int → Int} {ps : Prs} {x y : Int} (h : LeadP ps x y) : LeadP (ps.map fun p => (f p.1, f p.2)) (f x) (f y) := by
  induction h with
  | refl => exact .refl
  | tail _ r ih => exact ih.tail (List.mem_map.mpr ⟨_, r, rfl⟩)
theorem lead_unren {f : Int → Int} {C : Int → Prop} (hi : ∀ a b, C a → C b → f a = f b → a = b) {ps : Prs} (hp : ∀ q ∈ ps, C q.1 ∧ C q.2) {x : Int} (hx : C x) {z : Int} (h : LeadP (ps.map fun p => (f p.1, f p.2)) (f x) z) : ∃ y, C y ∧ z = f y ∧ LeadP ps x y := by
  induction h with
  | refl => exact ⟨x, hx, rfl, .refl⟩
  | tail _ r ih =>
    obtain ⟨y, hy, rfl, l⟩ := ih
    obtain ⟨⟨a, b⟩, hq, e⟩ := List.mem_map.mp r
    simp only [Prod.mk.injEq] at e
    obtain ⟨e1, e2⟩ := e
    have e3 := hi _ _ (hp _ hq).1 hy e1
    subst e3
    exact ⟨b, (hp _ hq).2, e2.symm, l.tail hq⟩
theorem tied_ren {f : Int → Int} {C : Int → Prop} (hi : ∀ a b, C a → C b → f a = f b → a = b) {ps : Prs} (hp : ∀ q ∈ ps, C q.1 ∧ C q.2) {x : Int} (hx : C x) {S : List Int} (t : TiedP ps x S) : TiedP (ps.map fun p => (f p.1, f p.2)) (f x) (srt (S.map f)) := by
  have hS : ∀ y ∈ S, C y := fun y hy => by
    rcases List.mem_cons.mp (lead_sub ((t.mem y).mp hy).1) with rfl | q
    · exact hx
    · obtain ⟨r, hr, rfl⟩ := List.mem_map.mp q
      exact (hp r hr).2
  refine ⟨srt_lt (map_nodup (lt_nodup t.up) fun a ha b hb => hi a b (hS a ha) (hS b hb)), fun z => ?_⟩
  rw [(srt_perm _).mem_iff, List.mem_map]
  constructor
  · rintro ⟨y, hy, rfl⟩
    exact ⟨lead_ren ((t.mem y).mp hy).1, lead_ren ((t.mem y).mp hy).2⟩
  · rintro ⟨h1, h2⟩
    obtain ⟨y, hy, rfl, l1⟩ := lead_unren hi hp hx h1
    obtain ⟨x', hx', e, l2⟩ := lead_unren hi hp hy h2
    have := hi _ _ hx hx' e
    subst this
    exact ⟨y, (t.mem y).mpr ⟨l1, l2⟩, rfl⟩
theorem fit_ren {k : Int} {n : List Int} (hn : NmOk k n) {g : List Int} (hg : ∀ x ∈ g, 0 ≤ x ∧ x < k) : ∀ {Ss : List (List Int)}, (∀ S ∈ Ss, ∀ y ∈ S, 0 ≤ y ∧ y < k) → fitG (srt (g.map (nm n))) (Ss.map fun S => srt (S.map (nm n))) = fitG g Ss
  | [], _ => rfl
  | S :: Ss, h => by
    have ih := fit_ren hn hg (Ss := Ss) fun R hR => h R (List.mem_cons_of_mem _ hR)
    unfold fitG at ih ⊢
    rw [List.map_cons, List.all_cons, List.all_cons, ih]
    congr 1
    rw [Bool.eq_iff_iff, List.any_eq_true, List.any_eq_true]
    constructor
    · rintro ⟨z, h1, h2⟩
      obtain ⟨y, hy, rfl⟩ := List.mem_map.mp ((srt_perm _).mem_iff.mp h1)
      exact ⟨y, hy, decide_eq_true ((nm_mem hn (h S List.mem_cons_self) (hg y hy)).mp ((srt_perm _).mem_iff.mp (of_decide_eq_true h2)))⟩
    · rintro ⟨y, hy, h2⟩
      exact ⟨nm n y, (srt_perm _).mem_iff.mpr (List.mem_map.mpr ⟨y, hy, rfl⟩), decide_eq_true ((srt_perm _).mem_iff.mpr (List.mem_map.mpr ⟨y, of_decide_eq_true h2, rfl⟩))⟩
theorem use_ren {k : Int} {n : List Int} (hn : NmOk k n) {Ss : List (List Int)} (hs : ∀ S ∈ Ss, ∀ y ∈ S, 0 ≤ y ∧ y < k) : ∀ {w : List Ar}, (∀ r ∈ w, ArOk k r) → (usable (w.map (Ar.ren n)) (Ss.map fun S => srt (S.map (nm n)))).map Ar.pr = ((usable w Ss).map Ar.pr).map fun p => (nm n p.1, nm n p.2)
  | [], _ => rfl
  | r :: w, h => by
    have ih := use_ren hn hs (w := w) fun s q => h s (List.mem_cons_of_mem _ q)
    unfold usable at ih ⊢
    have e : fitG (r.ren n).g (Ss.map fun S => srt (S.map (nm n))) = fitG r.g Ss := fit_ren hn (h r List.mem_cons_self).g.rg hs
    rw [List.map_cons, List.filter_cons, List.filter_cons, e]
    split
    · rw [List.map_cons, List.map_cons, List.map_cons, ih]; rfl
    · exact ih
theorem SetsOk.ren {k : Int} {n : List Int} (hn : NmOk k n) : ∀ {ws : List (List Ar)} {Ss : List (List Int)} {p : List Int} {R : List (List Int)}, SetsOk Ss ws p R → WsOk k ws → (∀ x ∈ p, 0 ≤ x ∧ x < k) → (∀ S ∈ Ss, ∀ y ∈ S, 0 ≤ y ∧ y < k) → SetsOk (Ss.map fun S => srt (S.map (nm n))) (ws.map fun w => w.map (Ar.ren n)) (p.map (nm n)) (R.map fun S => srt (S.map (nm n)))
  | _, _, _, _, .nil _, _, _, _ => .nil _
  | _, Ss, _, _, .cons (w := w) (S := S) (x := x) t s, hw, hp, hs => by
    have w1 := hw w List.mem_cons_self
    have x1 := hp x List.mem_cons_self
    have c : ∀ q ∈ (usable w Ss).map Ar.pr, (0 ≤ q.1 ∧ q.1 < k) ∧ (0 ≤ q.2 ∧ q.2 < k) := fun q hq => by
      obtain ⟨r, hr, rfl⟩ := List.mem_map.mp hq
      have := w1.ok r (List.mem_filter.mp hr).1
      exact ⟨this.a, this.b⟩
    have srg := tied_rg (w := usable w Ss) (fun r hr => (w1.ok r (List.mem_filter.mp hr).1).b) x1 t
    refine .cons ?_ ?_
    · rw [use_ren hn hs w1.ok]
      exact tied_ren (C := fun y => 0 ≤ y ∧ y < k) (fun a b ha hb => nm_inj hn ha hb) c x1 t
    · have := SetsOk.ren hn s (fun v hv => hw v (List.mem_cons_of_mem _ hv)) (fun y hy => hp y (List.mem_cons_of_mem _ hy)) fun R hR => by
        rcases List.mem_append.mp hR with hR | hR
        · exact hs R hR
        · rw [List.mem_singleton.mp hR]; exact srg
      simpa using this
theorem prod_ren (n : List Int) (R : List (List Int)) : prod (R.map fun S => srt (S.map (nm n))) = prod R := by
  unfold prod
  rw [List.foldl_map]
  congr 1
  funext m S
  rw [(srt_perm _).length_eq, List.length_map]
end
end DL
namespace DL
open PySem L2 PyProof.Rows
noncomputable section
section
variable {T : Tx} {K : PySem.W.Frag} {mg : Str → Option Value} {base : Heap} {f f0 f1 f2 f3 f4 f5 f6 f7 : Addr} {fd fd0 fd1 fd2 fd3 fd4 fd5 fd6 fd7 : FuncData} [ci : CI T K] [n1 : NoF "turned"] [n2 : NoF "renamed"] [n3 : NoF "guards"]
def po_sets_of : List D → (D → Prop) → Prop := fun ds P => ∃ (k : Int) (ws : List (List Ar)) (p : List Int) (d : D), ds = [gameD k ws, d] ∧ (d = intsT p ∨ d = intsL p) ∧ (3 ≤ k ∧ k ≤ 5) ∧ WsOk k ws ∧ ws.length ≤ 40 ∧ PosOk k ws.length p ∧ (∀ Ss, SetsOk [] ws p Ss → P (.tup (Ss.map intsT)))
theorem sc_sets_of : FnScope ["game", "position", "sets", "_"] ["game", "position"] (defScope s_sets_of) := ⟨rfl, rfl, rfl, by decide +kernel, rfl, by decide +kernel, by decide +kernel⟩
theorem ok_sets_of (F : FnP K "sets_of" "sets_of" s_sets_of f fd) (Z : Free mg) (U_sets_at : Use T.prog T.w K mg base "sets_at" 3 ["game", "position"] (spD T po_sets_at) f0 fd0) (U_check_position : Use T.prog T.w K mg base "check_position" 3 ["game", "position"] (spD T po_check_position) f1 fd1) : FnOk T.prog T.w K mg base CX0 4 f fd ["game", "position"] (spD T po_sets_of) := by
  have sc := sc_sets_of
  refine okD (T := T) F sc (fun ds P h => ?_) fun cdv A outer s H E hr => ⟨_, (pss_cons (ps_asg (pe_use U_sets_at (hr.mono (by decide)) (by rfl) (pa_cons (pv 0) (pa_cons (pe_use U_check_position (hr.mono (by decide)) (by rfl) (pa_cons (pv 0) (pa_cons (pv 1) pa_nil))) pa_nil))) (pg_tupK (K := K) (n := 2) rfl rfl (pgs_cons (pg_name (i := 2) sc.nd rfl (by first | exact Or.inl rfl | exact Or.inr rfl)) (pgs_cons (pg_name (i := 3) sc.nd rfl (by first | exact Or.inl rfl | exact Or.inr rfl)) pgs_nil))))
        (pss_one (ps_ret (pv 2)))), fun ds P h => ?_⟩
  · obtain ⟨k, ws, p, d, rfl, _⟩ := h; rfl
  · obtain ⟨k, ws, p, d, rfl, p0, p1, p2, p3, p4, h⟩ := h
    refine Left.mk ?_
    simp [argsOf, and_assoc, po_sets_at, po_check_position]
    exact ⟨ws, rfl, p, p0, p4, ws, rfl, p, rfl, p1.1, p1.2, p2, p3, p4, fun Ss hS _ => h Ss hS⟩
def po_room_size : List D → (D → Prop) → Prop := fun ds P => ∃ (k : Int) (ws : List (List Ar)) (p : List Int) (d : D), ds = [gameD k ws, d] ∧ (d = intsT p ∨ d = intsL p) ∧ (3 ≤ k ∧ k ≤ 5) ∧ WsOk k ws ∧ ws.length ≤ 40 ∧ PosOk k ws.length p ∧ (∀ Ss, SetsOk [] ws p Ss → P (.int (prod Ss)))
theorem sc_room_size : FnScope ["game", "position"] ["game", "position"] (defScope s_room_size) := ⟨rfl, rfl, rfl, by decide +kernel, rfl, by decide +kernel, by decide +kernel⟩
theorem ok_room_size (F : FnP K "room_size" "room_size" s_room_size f fd) (Z : Free mg) (U_many_in : Use T.prog T.w K mg base "many_in" 1 ["sets"] (spD T po_many_in) f0 fd0) (U_sets_of : Use T.prog T.w K mg base "sets_of" 4 ["game", "position"] (spD T po_sets_of) f1 fd1) : FnOk T.prog T.w K mg base CX0 5 f fd ["game", "position"] (spD T po_room_size) := by
  have sc := sc_room_size
  refine okD (T := T) F sc (fun ds P h => ?_) fun cdv A outer s H E hr => ⟨_, (pss_one (ps_ret (pe_use U_many_in (hr.mono (by decide)) (by rfl) (pa_cons (pe_use U_sets_of (hr.mono (by decide)) (by rfl) (pa_cons (pv 0) (pa_cons (pv 1) pa_nil))) pa_nil)))), fun ds P h => ?_⟩
  · obtain ⟨k, ws, p, d, rfl, _⟩ := h; rfl
  · obtain ⟨k, ws, p, d, rfl, p0, p1, p2, p3, p4, h⟩ := h
    refine Left.mk ?_
    simp [argsOf, and_assoc, po_sets_of, po_many_in]
    exact ⟨ws, rfl, p, p0, p1.1, p1.2, p2, p3, p4, fun Ss hS => ⟨Ss, rfl, hS.few p1.2 p2 p4.rg, by rw [hS.len.1]; exact p3, h Ss hS⟩⟩
def po_in_room : List D → (D → Prop) → Prop := fun ds P => ∃ (k : Int) (ws : List (List Ar)) (p q : List Int) (d e : D), ds = [gameD k ws, d, e] ∧ (d = intsT p ∨ d = intsL p) ∧ (e = intsT q ∨ e = intsL q) ∧ (3 ≤ k ∧ k ≤ 5) ∧ WsOk k ws ∧ ws.length ≤ 40 ∧ PosOk k ws.length p ∧ PosOk k ws.length q ∧ (∀ Ss, SetsOk [] ws p Ss → P (.bl (inBox q Ss)))
theorem sc_in_room : FnScope ["game", "position", "other", "sets"] ["game", "position", "other"] (defScope s_in_room) := ⟨rfl, rfl, rfl, by decide +kernel, rfl, by decide +kernel, by decide +kernel⟩
theorem ok_in_room (F : FnP K "in_room" "in_room" s_in_room f fd) (Z : Free mg) (U_is_within : Use T.prog T.w K mg base "is_within" 1 ["position", "sets"] (spD T po_is_within) f0 fd0) (U_check_position : Use T.prog T.w K mg base "check_position" 3 ["game", "position"] (spD T po_check_position) f1 fd1) (U_sets_of : Use T.prog T.w K mg base "sets_of" 4 ["game", "position"] (spD T po_sets_of) f2 fd2) : FnOk T.prog T.w K mg base CX0 5 f fd ["game", "position", "other"] (spD T po_in_room) := by
  have sc := sc_in_room
  refine okD (T := T) F sc (fun ds P h => ?_) fun cdv A outer s H E hr => ⟨_, (pss_cons (ps_set (i := 3) sc.nd rfl (by first | exact Or.inl rfl | exact Or.inr rfl) (pe_use U_sets_of (hr.mono (by decide)) (by rfl) (pa_cons (pv 0) (pa_cons (pv 1) pa_nil))))
        (pss_one (ps_ret (pe_use U_is_within (hr.mono (by decide)) (by rfl) (pa_cons (pe_use U_check_position (hr.mono (by decide)) (by rfl) (pa_cons (pv 0) (pa_cons (pv 2) pa_nil))) (pa_cons (pv 3) pa_nil)))))), fun ds P h => ?_⟩
  · obtain ⟨k, ws, p, q, d, e, rfl, _⟩ := h; rfl
  · obtain ⟨k, ws, p, q, d, e, rfl, p0, p1, p2, p3, p4, p5, p6, h⟩ := h
    refine Left.mk ?_
    simp [argsOf, and_assoc, po_sets_of, po_check_position, po_is_within]
    exact ⟨ws, rfl, p, p0, p2.1, p2.2, p3, p4, p5, fun Ss hS => ⟨ws, rfl, q, p1, p6, q, rfl, Ss, rfl, by rw [p6.len]; exact p4, h Ss hS⟩⟩
end
end
end DL
/-! M7: what the law makes -/
namespace DL
open PySem L2 PyProof.Rows
noncomputable section
/-- the guards made so far, less the empty one -/
structure GsI (a b : Int) (i : Nat) (gs : List (List Int)) : Prop where
  len : gs.length + 1 ≤ 2 ^ i
  ok : ∀ g ∈ gs, g ≠ [] ∧ g.Pairwise (· < ·) ∧ (∀ x ∈ g, 0 ≤ x ∧ x < (i : Int)) ∧ a ∉ g ∧ b ∉ g
  one : ∀ c : Int, 0 ≤ c → c < (i : Int) → c ≠ a → c ≠ b → [c] ∈ gs
theorem pow32 {i : Nat} (h : i ≤ 4) : 2 ^ i ≤ 16 := by
  have : i = 0 ∨ i = 1 ∨ i = 2 ∨ i = 3 ∨ i = 4 := by omega
  rcases this with rfl | rfl | rfl | rfl | rfl <;> decide
theorem GsI.start {a b : Int} : GsI a b 0 [] := ⟨by decide, fun g hg => (nomatch hg), fun c h1 h2 => by omega⟩
theorem GsI.skip {a b : Int} {i : Nat} {gs : List (List Int)} (h : GsI a b i gs) (e : (i : Int) = a ∨ (i : Int) = b) : GsI a b (i + 1) gs :=
  ⟨Nat.le_trans h.len (Nat.pow_le_pow_right (by decide) (by omega)), fun g hg => by
    obtain ⟨h1, h2, h3, h4⟩ := h.ok g hg
    exact ⟨h1, h2, fun x hx => by have := h3 x hx; omega, h4⟩, fun c h1 h2 h3 h4 => h.one c h1 (by omega) h3 h4⟩
theorem GsI.add {a b : Int} {i : Nat} {gs : List (List Int)} (h : GsI a b i gs) (e1 : ¬ (i : Int) = a) (e2 : ¬ (i : Int) = b) : GsI a b (i + 1) (gs ++ ([] :: gs).map fun g => g ++ [(i : Int)]) := by
  have hl := h.len
  refine ⟨?_, fun g hg => ?_, fun c h1 h2 h3 h4 => ?_⟩
  · rw [Nat.pow_succ]
    simp
    omega
  · rcases List.mem_append.mp hg with hg | hg
    · obtain ⟨h1, h2, h3, h4⟩ := h.ok g hg
      exact ⟨h1, h2, fun x hx => by have := h3 x hx; omega, h4⟩
    · obtain ⟨g', hg', rfl⟩ := List.mem_map.mp hg
      have q : g'.Pairwise (· < ·) ∧ (∀ x ∈ g', 0 ≤ x ∧ x < (i : Int)) ∧ a ∉ g' ∧ b ∉ g' := by
        rcases List.mem_cons.mp hg' with rfl | hg'
        · simp
        · exact (h.ok g' hg').2
      obtain ⟨h2, h3, h4, h5⟩ := q
      refine ⟨by simp, List.pairwise_append.mpr ⟨h2, by simp, fun x hx y hy => ?_⟩, fun x hx => ?_, fun z => ?_, fun z => ?_⟩
      · rw [List.mem_singleton.mp hy]
        exact (h3 x hx).2
      · rcases List.mem_append.mp hx with hx | hx
        · have := h3 x hx; omega
        · rw [List.mem_singleton.mp hx]; omega
      · rcases List.mem_append.mp z with z | z
        · exact h4 z
        · exact e1 (List.mem_singleton.mp z).symm
      · rcases List.mem_append.mp z with z | z
        · exact h5 z
        · exact e2 (List.mem_singleton.mp z).symm
  · by_cases e : c = i
    · subst e
      simp
    · exact List.mem_append_left _ (h.one c h1 (by omega) h3 h4)
theorem GsI.glen {a b : Int} {i : Nat} {gs : List (List Int)} (h : GsI a b i gs) (hi : i < 5) : ∀ g ∈ [] :: gs, g.length ≤ 5 := fun g hg => by
  rcases List.mem_cons.mp hg with rfl | hg
  · decide
  · obtain ⟨h1, h2, h3, h4⟩ := h.ok g hg
    exact few_ints (k := 5) (by decide) (lt_nodup h2) fun y hy => by have := h3 y hy; omega
theorem GsI.fin {a b k : Int} {gs : List (List Int)} (hk : 3 ≤ k ∧ k ≤ 5) (h : GsI a b k.toNat gs) : gs.length ≤ 32 ∧ (∃ g ∈ gs, g.length = 1) ∧ ∀ g ∈ gs, GOk k g ∧ a ∉ g ∧ b ∉ g := by
  have hl := h.len
  have : 2 ^ k.toNat ≤ 2 ^ 5 := Nat.pow_le_pow_right (by decide) (by omega)
  refine ⟨by omega, ?_, fun g hg => ?_⟩
  · have : ∃ c : Int, 0 ≤ c ∧ c < 3 ∧ c ≠ a ∧ c ≠ b := by
      by_cases h0 : (0 : Int) ≠ a ∧ (0 : Int) ≠ b
      · exact ⟨0, by omega, by omega, h0⟩
      · by_cases h1 : (1 : Int) ≠ a ∧ (1 : Int) ≠ b
        · exact ⟨1, by omega, by omega, h1⟩
        · exact ⟨2, by omega, by omega, by omega, by omega⟩
    obtain ⟨c, c1, c2, c3, c4⟩ := this
    exact ⟨[c], h.one c c1 (by omega) c3 c4, rfl⟩
  · obtain ⟨h1, h2, h3, h4, h5⟩ := h.ok g hg
    have rg : ∀ x ∈ g, 0 ≤ x ∧ x < k := fun x hx => by have := h3 x hx; omega
    exact ⟨⟨h1, h2, rg, few_ints hk.2 (lt_nodup h2) rg⟩, h4, h5⟩
theorem cut_1 (x : D) (l : List D) : List.take (HT.sIx (x :: l).length (x :: l).length none - HT.sIx (x :: l).length 0 (some 1)) (List.drop (HT.sIx (x :: l).length 0 (some 1)) (x :: l)) = l := by
  have e1 : HT.sIx (x :: l).length (x :: l).length none = (x :: l).length := rfl
  have e2 : HT.sIx (x :: l).length 0 (some 1) = 1 := by
    have := HT.sIx_nat (n := (x :: l).length) (d := 0) (k := 1)
    rw [List.length_cons] at this ⊢
    have h : min 1 (l.length + 1) = 1 := by omega
    first
      | exact this.trans h
      | exact this.trans (by omega)
  rw [e1, e2, List.length_cons]
  simp
theorem pick7 {i : Int} (h1 : 0 ≤ i) (h2 : i < 7) : ∃ x : Nat, i = x ∧ ∃ k : Int, [D.int 3, D.int 4, D.int 3, D.int 3, D.int 5, D.int 3, D.int 4][x]? = some (.int k) ∧ 3 ≤ k ∧ k ≤ 5 := by
  refine ⟨i.toNat, by omega, ?_⟩
  have : i.toNat = 0 ∨ i.toNat = 1 ∨ i.toNat = 2 ∨ i.toNat = 3 ∨ i.toNat = 4 ∨ i.toNat = 5 ∨ i.toNat = 6 := by omega
  rcases this with e | e | e | e | e | e | e <;> rw [e] <;> exact ⟨_, rfl, by decide, by decide⟩
theorem pick8 {i : Int} (h1 : 0 ≤ i) (h2 : i < 8) : ∃ x : Nat, i = x ∧ ∃ k : Int, [D.int 2, D.int 3, D.int 1, D.int 3, D.int 4, D.int 2, D.int 0, D.int 3][x]? = some (.int k) ∧ 0 ≤ k ∧ k ≤ 4 := by
  refine ⟨i.toNat, by omega, ?_⟩
  have : i.toNat = 0 ∨ i.toNat = 1 ∨ i.toNat = 2 ∨ i.toNat = 3 ∨ i.toNat = 4 ∨ i.toNat = 5 ∨ i.toNat = 6 ∨ i.toNat = 7 := by omega
  rcases this with e | e | e | e | e | e | e | e <;> rw [e] <;> exact ⟨_, rfl, by decide, by decide⟩
theorem powk {k : Int} (h1 : 3 ≤ k) (h2 : k ≤ 5) {i : Nat} (hi : i ≤ 5) : 0 ≤ k ^ i ∧ k ^ i ≤ 3125 := by
  have e : k = 3 ∨ k = 4 ∨ k = 5 := by omega
  have e2 : i = 0 ∨ i = 1 ∨ i = 2 ∨ i = 3 ∨ i = 4 ∨ i = 5 := by omega
  rcases e with rfl | rfl | rfl <;> rcases e2 with rfl | rfl | rfl | rfl | rfl | rfl <;> decide
end
end DL
set_option synthInstance.maxHeartbeats 2000000
set_option synthInstance.maxSize 100000
namespace DL
open PySem L2 PyProof.Rows
noncomputable section
section
variable {T : Tx} {K : PySem.W.Frag} {mg : Str → Option Value} {base : Heap} {f f0 f1 f2 f3 f4 f5 f6 f7 : Addr} {fd fd0 fd1 fd2 fd3 fd4 fd5 fd6 fd7 : FuncData} [ci : CI T K] [n1 : NoF "turned"] [n2 : NoF "renamed"] [n3 : NoF "guards"]
def po__law_take : List D → (D → Prop) → Prop := fun ds P => ∃ n : Int, ds = [.int n] ∧ 0 < n ∧ ∀ i : Int, 0 ≤ i → i < n → P (.int i)
theorem sc__law_take : FnScope ["_law_draws_here", "_law_many", "_law_at"] ["_law_draws_here", "_law_many"] (defScope s__law_take) := ⟨rfl, rfl, rfl, by decide +kernel, rfl, by decide +kernel, by decide +kernel⟩
theorem ok__law_take (F : FnP K "_law_take" "_law_take" s__law_take f fd) (Z : Free mg) : FnOk T.prog T.w K mg base CX0 1 f fd ["_law_draws_here", "_law_many"] (spR T po__law_take) := by
  have sc := sc__law_take
  refine F.ok sc (fun vs H Q E hs => ?_) (fun cdv A outer s H vs Q E hr hs => ?_)
  · obtain ⟨a, us, S', ds, P', rfl, _, _, _, _, r, ⟨n, rfl, _⟩, _⟩ := hs
    rw [List.length_cons, r.length]
    rfl
  refine ⟨_, PSs.nox (pss_cons (ps_set (i := 2) sc.nd rfl (by first | exact Or.inl rfl | exact Or.inr rfl) (pe_ix (ix_seqK (K := K) rfl) (pv 0) pe_int (fun _ _ => rfl)))
        (pss_cons (ps_if (pt_cmpR o_ge (pv 2) (pe_callB (c_lenK2 (K := K) rfl) (by rfl) Z.len bt_len (pa_cons (pe_ix (ix_seqK (K := K) rfl) (pv 0) pe_int (fun _ _ => rfl)) pa_nil)) (nomark _)) (pss_one (ps_ret pe_int)) pss_nil)
        (pss_cons (ps_asg (pe_op (o_plusK (K := K) rfl) (pv 2) pe_int) (pg_sub (pv 0) pe_int set_list))
        (pss_one (ps_ret (pe_op o_mod (pe_callTy c_int (by rfl) Z.int bt_int (pa_cons (pe_ix (ix_seqK (K := K) rfl) (pe_ix (ix_seqK (K := K) rfl) (pv 0) pe_int (fun _ _ => rfl)) (pv 2) (fun _ _ => rfl)) pa_nil)) (pv 1))))))), ?_⟩
  obtain ⟨a, us, S', ds, P, rfl, hA, hA2, hS, ⟨p, ns, d1, d2, d3, d4⟩, r, ⟨n, rfl, hn, hP⟩, hk⟩ := hs
  cases r with | cons r1 r2 => _
  cases r1
  cases r2
  simp only [L2.start, List.map_cons, List.map_nil, List.length_cons, List.length_nil, List.cons_append, List.nil_append]
  have s1 : ∀ {G : Hp}, G a.1 = some (.lst [.int p, .ref a.2]) → SqL K G a.1 [.int p, .ref a.2] := fun h => .inl (.inl h)
  have s2 : ∀ {G : Hp}, G a.2 = some (.lst (ns.map V.int)) → SqL K G a.2 (ns.map V.int) := fun h => .inl (.inl h)
  refine ⟨_, rfl, .inl ⟨_, _, _, _, rfl, rfl, s1 d1, atI_nat (j := 0) rfl, ?_⟩⟩
  refine ⟨_, rfl, ?_⟩
  refine ⟨_, rfl, .inl ⟨_, _, _, _, rfl, rfl, s1 d1, atI_nat (j := 1) rfl, ?_⟩⟩
  refine ⟨_, _, rfl, .inl (s2 d3), ?_⟩
  refine ⟨_, _, rfl, rfl, ?_⟩
  refine ⟨_, rfl, ?_⟩
  rw [List.length_map]
  by_cases hp : ns.length ≤ p
  · simp only [Int.ofNat_le, hp, decide_true, if_true]
    exact hk _ _ _ (fun b o _ h => h) ⟨p, ns, d1, d2, d3, d4⟩ (.int 0) (hP 0 (by omega) hn)
  · simp only [Int.ofNat_le, hp, decide_false]
    have hz : p < ns.length := by omega
    refine ⟨_, rfl, .inl ⟨_, _, rfl, rfl, ?_⟩⟩
    refine ⟨_, rfl, ?_⟩
    refine ⟨_, _, _, 0, rfl, rfl, d1, rfl, ?_⟩
    have e1 : upd H a.1 (.lst ([V.int p, V.ref a.2].set 0 (V.int (p + 1)))) a.1 = some (.lst [V.int ((p + 1 : Nat) : Int), V.ref a.2]) := by rw [upd_same]; rfl
    have e2 : upd H a.1 (.lst ([V.int p, V.ref a.2].set 0 (V.int (p + 1)))) a.2 = some (.lst (ns.map V.int)) := by rw [upd_ne d2, d3]
    have g1 : SqL K (upd H a.1 (.lst ([V.int p, V.ref a.2].set 0 (V.int (p + 1))))) a.1 [V.int ((p + 1 : Nat) : Int), V.ref a.2] := .inl (.inl e1)
    refine ⟨_, rfl, .inl ⟨_, _, _, _, rfl, rfl, g1, atI_nat (j := 1) rfl, ?_⟩⟩
    refine ⟨_, rfl, .inl ⟨_, _, _, _, rfl, rfl, s2 e2, atI_nat (by rw [List.getElem?_map, List.getElem?_eq_getElem hz]; rfl), ?_⟩⟩
    refine .inl ⟨_, rfl, ?_⟩
    refine ⟨_, rfl, ⟨_, _, rfl, rfl, hn, ?_⟩⟩
    exact hk _ _ _ (fun b o hb h => by rw [upd_ne hb]; exact h) ⟨p + 1, ns, e1, d2, e2, hz⟩ (.int _) (hP _ (Int.emod_nonneg _ (by omega)) (Int.emod_lt_of_pos _ hn))
def po__law_guards : List D → (D → Prop) → Prop := fun ds P => ∃ (k a b : Int), ds = [.int k, .int a, .int b] ∧ (3 ≤ k ∧ k ≤ 5) ∧ (0 ≤ a ∧ a < k) ∧ (0 ≤ b ∧ b < k) ∧ a ≠ b ∧ (∀ gs : List (List Int), gs.length ≤ 32 → (∃ g ∈ gs, g.length = 1) → (∀ g ∈ gs, GOk k g ∧ a ∉ g ∧ b ∉ g) → P (.lst (gs.map intsT)))
theorem sc__law_guards : FnScope ["_law_pegs", "_law_start", "_law_stop", "_law_rows", "_law_peg", "_law_row"] ["_law_pegs", "_law_start", "_law_stop"] (defScope s__law_guards) := ⟨rfl, rfl, rfl, by decide +kernel, rfl, by decide +kernel, by decide +kernel⟩
theorem ok__law_guards (F : FnP K "_law_guards" "_law_guards" s__law_guards f fd) (Z : Free mg)  : FnOk T.prog T.w K mg base CX0 1 f fd ["_law_pegs", "_law_start", "_law_stop"] (spD T po__law_guards) := by
  have sc := sc__law_guards
  refine okD (T := T) F sc (fun ds P h => ?_) fun cdv A outer s H E hr => ⟨_, (pss_cons (ps_set (i := 3) sc.nd rfl (by first | exact Or.inl rfl | exact Or.inr rfl) (pe_lst (pa_cons (pe_tup pa_nil) pa_nil)))
        (pss_cons (ps_for PassesOwn.never rfl (pi_range1 (by rfl) Z.range (pa_cons (pv 0) pa_nil)) (pg_name (i := 4) sc.nd rfl (by first | exact Or.inl rfl | exact Or.inr rfl)) (pss_one (ps_if (PW.pt (pw_and (pt_cmpR (o_neK (K := K) rfl (hu64 hr)) (pv 4) (pv 1) (nomark _)) (pw_and1 (pt_cmpR (o_neK (K := K) rfl (hu64 hr)) (pv 4) (pv 2) (nomark _))))) (pss_one (ps_set (i := 3) sc.nd rfl (by first | exact Or.inl rfl | exact Or.inr rfl) (pe_op (o_plusK (K := K) rfl) (pv 3) (pe_lc (own := [("_law_row", 5)]) rfl sc.nd (pi_seqK (K := K) rfl (pv 3)) (blkOk_by (N := ["_law_pegs", "_law_start", "_law_stop", "_law_rows", "_law_peg", "_law_row"]) (sc := defScope s__law_guards) (by decide +kernel)) (fun _ _ _ _ _ => (pg_name (i := 5) sc.nd rfl (by first | exact Or.inl rfl | exact Or.inr rfl))) (fun _ _ _ _ _ => pts_nil) (fun _ _ _ _ _ => (pe_op (o_plusK (K := K) rfl) (pv 5) (pe_tup (pa_cons (pv 4) pa_nil)))))))) pss_nil)))
        (pss_one (ps_ret (pe_slice (sl_anyK (K := K) rfl) (pv 3) (po_some pe_int) po_none))))), fun ds P h => ?_⟩
  · obtain ⟨k, a, b, rfl, _⟩ := h; rfl
  · obtain ⟨k, a, b, rfl, p0, p1, p2, p3, h⟩ := h
    refine Left.mk ?_
    simp [argsOf, and_assoc]
    refine ⟨by omega, by omega, fun i ρ => ∃ (gs : List (List Int)) (o4 o5 : Option Kn), ρ = [some (.v (.int k)), some (.v (.int a)), some (.v (.int b)), some (.v (.lst (([] :: gs).map intsT))), o4, o5] ∧ GsI a b i gs, ⟨[], _, _, rfl, GsI.start⟩, ?_, ?_⟩
    · rintro i e ρ hx ⟨gs, o4, o5, rfl, hg⟩
      obtain ⟨hi, rfl⟩ := rangeD_some hx
      have hl := hg.len
      have h32 := pow32 (show i ≤ 4 by omega)
      simp [and_assoc]
      by_cases e1 : (i : Int) = a
      · exact .inl ⟨e1, gs, rfl, hg.skip (.inl e1)⟩
      · refine .inr ⟨e1, ?_⟩
        by_cases e2 : (i : Int) = b
        · exact .inl ⟨e2, gs, rfl, hg.skip (.inr e2)⟩
        · refine .inr ⟨e2, by omega, fun j acc => acc = (([] :: gs).take j).map fun g => intsT (g ++ [(i : Int)]), by simp, ?_, ?_⟩
          · rintro j d acc hd rfl
            have hd : (([] :: gs).map intsT)[j]? = some d := hd
            obtain ⟨g, hg', rfl⟩ := get_map hd
            have gl := hg.glen (by omega) g (mem_get hg')
            refine ⟨g.map .int, rfl, by rw [List.length_map]; omega, ?_⟩
            show _ = _
            rw [take_next hg', List.map_append]
            simp
          · rintro acc rfl
            refine ⟨by simp; omega, gs ++ ([] :: gs).map fun g => g ++ [(i : Int)], by simp, hg.add e1 e2⟩
    · rintro ρ ⟨gs, o4, o5, rfl, hg⟩
      have hg : GsI a b k.toNat gs := by simpa [rangeD_len] using hg
      obtain ⟨q1, q2, q3⟩ := hg.fin p0
      exact ⟨_, rfl, .inl ⟨_, rfl, by rw [List.map_cons, cut_1]; exact h gs q1 q2 q3⟩⟩
def po__law_cost : List D → (D → Prop) → Prop := fun ds P => ds = [] ∧ (∀ c : Int, 1 ≤ c → c ≤ 1000000000 → P (.int c))
theorem sc__law_cost : FnScope ["_law_draws_here", "_law_cost_here"] ["_law_draws_here"] (defScope s__law_cost) := ⟨rfl, rfl, rfl, by decide +kernel, rfl, by decide +kernel, by decide +kernel⟩
theorem ok__law_cost (F : FnP K "_law_cost" "_law_cost" s__law_cost f fd) (Z : Free mg) (U__law_take : Use T.prog T.w K mg base "_law_take" 1 ["_law_draws_here", "_law_many"] (spR T po__law_take) f0 fd0) : FnOk T.prog T.w K mg base CX0 2 f fd ["_law_draws_here"] (spR T po__law_cost) := by
  have sc := sc__law_cost
  refine okR (T := T) F sc (fun ds P h => ?_) fun cdv A outer s H E hr => ⟨_, (pss_cons (ps_set (i := 1) sc.nd rfl (by first | exact Or.inl rfl | exact Or.inr rfl) (pe_op (o_plusK (K := K) rfl) pe_int (pe_use U__law_take (hr.mono (by decide)) (by rfl) (pa_cons (pv 0) (pa_cons pe_int pa_nil)))))
        (pss_cons (ps_if (pt_cmpR (o_eqK (K := K) rfl (hu64 hr)) (pe_use U__law_take (hr.mono (by decide)) (by rfl) (pa_cons (pv 0) (pa_cons pe_int pa_nil))) pe_int (nomark _)) (pss_one (ps_set (i := 1) sc.nd rfl (by first | exact Or.inl rfl | exact Or.inr rfl) (pe_op (o_plusK (K := K) rfl) (pv 1) (pe_op o_pow pe_int pe_int)))) pss_nil)
        (pss_one (ps_ret (pv 1))))), fun ds P h => ?_⟩
  · obtain ⟨rfl, _⟩ := h; rfl
  · obtain ⟨rfl, h⟩ := h
    refine Left.mk ?_
    simp [argsOf, and_assoc, po__law_take]
    intro i h1 h2 j h3 h4
    split
    · exact ⟨by unfold CPow; decide, h _ (by omega) (by omega)⟩
    · exact h _ (by omega) (by omega)
def po__law_kind : List D → (D → Prop) → Prop := fun ds P => ds = [] ∧ (∀ x : Str, P (.str x))
theorem sc__law_kind : FnScope ["_law_draws_here"] ["_law_draws_here"] (defScope s__law_kind) := ⟨rfl, rfl, rfl, by decide +kernel, rfl, by decide +kernel, by decide +kernel⟩
theorem ok__law_kind (F : FnP K "_law_kind" "_law_kind" s__law_kind f fd) (Z : Free mg) (U__law_take : Use T.prog T.w K mg base "_law_take" 1 ["_law_draws_here", "_law_many"] (spR T po__law_take) f0 fd0) : FnOk T.prog T.w K mg base CX0 2 f fd ["_law_draws_here"] (spR T po__law_kind) := by
  have sc := sc__law_kind
  refine okR (T := T) F sc (fun ds P h => ?_) fun cdv A outer s H E hr => ⟨_, (pss_one (ps_ret (pe_ix (ix_seqK (K := K) rfl) (pe_lst (pa_cons pe_str (pa_cons pe_str (pa_cons pe_str pa_nil)))) (pe_use U__law_take (hr.mono (by decide)) (by rfl) (pa_cons (pv 0) (pa_cons pe_int pa_nil))) (fun _ _ => rfl)))), fun ds P h => ?_⟩
  · obtain ⟨rfl, _⟩ := h; rfl
  · obtain ⟨rfl, h⟩ := h
    refine Left.mk ?_
    simp [argsOf, and_assoc, po__law_take]
    intro i h1 h2
    have : i = 0 ∨ i = 1 ∨ i = 2 := by omega
    rcases this with rfl | rfl | rfl
    · exact ⟨0, rfl, _, rfl, h _⟩
    · exact ⟨1, rfl, _, rfl, h _⟩
    · exact ⟨2, rfl, _, rfl, h _⟩
def po__law_guard : List D → (D → Prop) → Prop := fun ds P => ∃ (k a b : Int) (x : Str), ds = [.int k, .int a, .int b, .str x] ∧ (3 ≤ k ∧ k ≤ 5) ∧ (0 ≤ a ∧ a < k) ∧ (0 ≤ b ∧ b < k) ∧ a ≠ b ∧ (∀ g : List Int, GOk k g → a ∉ g → b ∉ g → P (intsT g))
theorem sc__law_guard : FnScope ["_law_draws_here", "_law_pegs", "_law_start", "_law_stop", "_law_kind_here", "_law_rows", "_law_row"] ["_law_draws_here", "_law_pegs", "_law_start", "_law_stop", "_law_kind_here"] (defScope s__law_guard) := ⟨rfl, rfl, rfl, by decide +kernel, rfl, by decide +kernel, by decide +kernel⟩
theorem ok__law_guard (F : FnP K "_law_guard" "_law_guard" s__law_guard f fd) (Z : Free mg) (U__law_take : Use T.prog T.w K mg base "_law_take" 1 ["_law_draws_here", "_law_many"] (spR T po__law_take) f0 fd0) (U__law_guards : Use T.prog T.w K mg base "_law_guards" 1 ["_law_pegs", "_law_start", "_law_stop"] (spD T po__law_guards) f1 fd1) : FnOk T.prog T.w K mg base CX0 2 f fd ["_law_draws_here", "_law_pegs", "_law_start", "_law_stop", "_law_kind_here"] (spR T po__law_guard) := by
  have sc := sc__law_guard
  refine okR (T := T) F sc (fun ds P h => ?_) fun cdv A outer s H E hr => ⟨_, (pss_cons (ps_set (i := 5) sc.nd rfl (by first | exact Or.inl rfl | exact Or.inr rfl) (pe_use U__law_guards (hr.mono (by decide)) (by rfl) (pa_cons (pv 1) (pa_cons (pv 2) (pa_cons (pv 3) pa_nil)))))
        (pss_cons (ps_if (pt_cmpR (o_eqK (K := K) rfl (hu64 hr)) (pv 4) pe_str (nomark _)) (pss_one (ps_ret (pe_ix (ix_seqK (K := K) rfl) (pv 5) (pe_op o_sub (pe_callB (c_lenK2 (K := K) rfl) (by rfl) Z.len bt_len (pa_cons (pv 5) pa_nil)) pe_int) (fun _ _ => rfl)))) pss_nil)
        (pss_cons (ps_if (pt_cmpR (o_eqK (K := K) rfl (hu64 hr)) (pv 4) pe_str (nomark _)) (pss_one (ps_setLc (i := 5) (own := [("_law_row", 6)]) rfl sc.nd rfl rfl (sw_true rfl rfl rfl (by decide +kernel)) (pi_seqK (K := K) rfl (pv 5)) (blkOk_by (N := ["_law_draws_here", "_law_pegs", "_law_start", "_law_stop", "_law_kind_here", "_law_rows", "_law_row"]) (sc := defScope s__law_guard) (by decide +kernel)) (fun _ _ _ _ _ => (pg_name (i := 6) sc.nd rfl (by first | exact Or.inl rfl | exact Or.inr rfl))) (fun _ _ _ _ _ => (pts_one (pt_cmpR (o_eqK (K := K) rfl (hu64 hr)) (pe_callB (c_lenK2 (K := K) rfl) (by rfl) Z.len bt_len (pa_cons (pv 6) pa_nil)) pe_int (nomark _)))) (fun _ _ _ _ _ => (pv 6)))) pss_nil)
        (pss_one (ps_ret (pe_ix (ix_seqK (K := K) rfl) (pv 5) (pe_use U__law_take (hr.mono (by decide)) (by rfl) (pa_cons (pv 0) (pa_cons (pe_callB (c_lenK2 (K := K) rfl) (by rfl) Z.len bt_len (pa_cons (pv 5) pa_nil)) pa_nil))) (fun _ _ => rfl))))))), fun ds P h => ?_⟩
  · obtain ⟨k, a, b, x, rfl, _⟩ := h; rfl
  · obtain ⟨k, a, b, x, rfl, p0, p1, p2, p3, h⟩ := h
    refine Left.mk ?_
    simp [argsOf, and_assoc, po__law_guards, po__law_take]
    refine ⟨p0.1, p0.2, p1.1, p1.2, p2.1, p2.2, p3, fun gs gl g1 hg1 hl1 hgs => ?_⟩
    have pos : 0 < gs.length := List.length_pos_of_mem hg1
    have pick : ∀ i : Int, 0 ≤ i → i < gs.length → ∃ x : Nat, i = x ∧ ∃ d, (∃ a, gs[x]? = some a ∧ intsT a = d) ∧ P d := fun i h1 h2 => by
      obtain ⟨q1, q2, q3⟩ := hgs _ (List.getElem_mem (show i.toNat < gs.length by omega))
      exact ⟨i.toNat, by omega, _, ⟨_, List.getElem?_eq_getElem (by omega), rfl⟩, h _ q1 q2 q3⟩
    split
    · exact pick _ (by omega) (by omega)
    · split
      · refine ⟨by omega, fun i acc => acc = ((gs.take i).filter fun g => decide (g.length = 1)).map intsT, by simp, ?_, ?_⟩
        · rintro i d acc g hg rfl rfl
          refine ⟨g.map .int, .inr rfl, ?_⟩
          by_cases e : g.length = 1
          · rw [if_pos (by rw [List.length_map]; omega)]
            show _ = _
            rw [take_next hg, List.filter_append, List.map_append]
            simp [e]
          · rw [if_neg (by rw [List.length_map]; omega)]
            show _ = _
            rw [take_next hg, List.filter_append, List.map_append]
            simp [e]
        · rintro acc rfl
          rw [List.take_length]
          have m1 : g1 ∈ gs.filter fun g => decide (g.length = 1) := List.mem_filter.mpr ⟨hg1, decide_eq_true hl1⟩
          have := List.length_pos_of_mem m1
          rw [List.length_map]
          refine ⟨this, fun i h1 h2 => ?_⟩
          have hi : i.toNat < (gs.filter fun g => decide (g.length = 1)).length := by omega
          obtain ⟨q1, q2, q3⟩ := hgs _ (List.mem_filter.mp (List.getElem_mem hi)).1
          exact ⟨i.toNat, by omega, _, by rw [List.getElem?_map, List.getElem?_eq_getElem hi]; rfl, h _ q1 q2 q3⟩
      · exact ⟨pos, pick⟩
def po__law_sizes : List D → (D → Prop) → Prop := fun ds P => ∃ (m : Int), ds = [.int m] ∧ m ≤ 100 ∧ (∀ (k : Int) (n : Nat), 3 ≤ k → k ≤ 5 → n ≤ 4 → k ^ n ≤ 100 → P (.lst [.int k, .int n]))
theorem sc__law_sizes : FnScope ["_law_draws_here", "_law_most", "_law_pegs", "_law_discs", "_law_many", "_law_fit", "_law_disc"] ["_law_draws_here", "_law_most"] (defScope s__law_sizes) := ⟨rfl, rfl, rfl, by decide +kernel, rfl, by decide +kernel, by decide +kernel⟩
theorem ok__law_sizes (F : FnP K "_law_sizes" "_law_sizes" s__law_sizes f fd) (Z : Free mg) (U__law_take : Use T.prog T.w K mg base "_law_take" 1 ["_law_draws_here", "_law_many"] (spR T po__law_take) f0 fd0) : FnOk T.prog T.w K mg base CX0 2 f fd ["_law_draws_here", "_law_most"] (spR T po__law_sizes) := by
  have sc := sc__law_sizes
  refine okR (T := T) F sc (fun ds P h => ?_) fun cdv A outer s H E hr => ⟨_, (pss_cons (ps_set (i := 2) sc.nd rfl (by first | exact Or.inl rfl | exact Or.inr rfl) (pe_ix (ix_seqK (K := K) rfl) (pe_lst (pa_cons pe_int (pa_cons pe_int (pa_cons pe_int (pa_cons pe_int (pa_cons pe_int (pa_cons pe_int (pa_cons pe_int pa_nil)))))))) (pe_use U__law_take (hr.mono (by decide)) (by rfl) (pa_cons (pv 0) (pa_cons pe_int pa_nil))) (fun _ _ => rfl)))
        (pss_cons (ps_set (i := 3) sc.nd rfl (by first | exact Or.inl rfl | exact Or.inr rfl) (pe_ix (ix_seqK (K := K) rfl) (pe_lst (pa_cons pe_int (pa_cons pe_int (pa_cons pe_int (pa_cons pe_int (pa_cons pe_int (pa_cons pe_int (pa_cons pe_int (pa_cons pe_int pa_nil))))))))) (pe_use U__law_take (hr.mono (by decide)) (by rfl) (pa_cons (pv 0) (pa_cons pe_int pa_nil))) (fun _ _ => rfl)))
        (pss_cons (ps_set (i := 4) sc.nd rfl (by first | exact Or.inl rfl | exact Or.inr rfl) pe_int)
        (pss_cons (ps_set (i := 5) sc.nd rfl (by first | exact Or.inl rfl | exact Or.inr rfl) pe_int)
        (pss_cons (ps_for PassesOwn.never rfl (pi_range1 (by rfl) Z.range (pa_cons (pv 3) pa_nil)) (pg_name (i := 6) sc.nd rfl (by first | exact Or.inl rfl | exact Or.inr rfl)) (pss_cons (ps_set (i := 4) sc.nd rfl (by first | exact Or.inl rfl | exact Or.inr rfl) (pe_op o_mul (pv 4) (pv 2)))
        (pss_one (ps_if (pt_cmpR o_le (pv 4) (pv 1) (nomark _)) (pss_one (ps_set (i := 5) sc.nd rfl (by first | exact Or.inl rfl | exact Or.inr rfl) (pe_op (o_plusK (K := K) rfl) (pv 6) pe_int))) pss_nil))))
        (pss_one (ps_ret (pe_lst (pa_cons (pv 2) (pa_cons (pv 5) pa_nil)))))))))), fun ds P h => ?_⟩
  · obtain ⟨m, rfl, _⟩ := h; rfl
  · obtain ⟨m, rfl, p0, h⟩ := h
    refine Left.mk ?_
    simp [argsOf, and_assoc, po__law_take]
    intro i h1 h2
    obtain ⟨x, rfl, k, hx, k1, k2⟩ := pick7 h1 h2
    refine ⟨x, rfl, _, hx, fun i h1 h2 => ?_⟩
    obtain ⟨y, rfl, j, hy, j1, j2⟩ := pick8 h1 h2
    refine ⟨y, rfl, _, hy, j, rfl, by omega, by omega, fun i ρ => ∃ (n : Nat) (o6 : Option Kn), ρ = [some .dr, some (.v (.int m)), some (.v (.int k)), some (.v (.int j)), some (.v (.int (k ^ i))), some (.v (.int n)), o6] ∧ n ≤ i ∧ k ^ n ≤ 100, ⟨0, none, by rw [Int.pow_zero]; rfl, Nat.le_refl _, by simp⟩, ?_, ?_⟩
    · rintro i d ρ hd ⟨n, o6, rfl, hn, hp⟩
      obtain ⟨hi, rfl⟩ := rangeD_some hd
      have b := powk k1 k2 (show i ≤ 5 by omega)
      have b2 := powk k1 k2 (show i + 1 ≤ 5 by omega)
      simp [and_assoc, CMul]
      refine ⟨by omega, ?_⟩
      split
      · refine ⟨(Int.pow_succ ..).symm, i + 1, by omega, by omega, ?_⟩
        rw [Int.pow_succ]
        omega
      · exact ⟨(Int.pow_succ ..).symm, n, rfl, by omega, hp⟩
    · rintro ρ ⟨n, o6, rfl, hn, hp⟩
      rw [rangeD_len] at hn
      exact ⟨_, rfl, _, rfl, h k n k1 k2 (by omega) hp⟩
def po__law_position : List D → (D → Prop) → Prop := fun ds P => ∃ (k n : Int), ds = [.int k, .int n] ∧ (3 ≤ k ∧ k ≤ 5) ∧ (0 ≤ n ∧ n ≤ 40) ∧ (∀ p : List Int, PosOk k n.toNat p → P (intsT p))
theorem sc__law_position : FnScope ["_law_draws_here", "_law_pegs", "_law_discs", "_law_word", "_law_row", "_law_disc"] ["_law_draws_here", "_law_pegs", "_law_discs"] (defScope s__law_position) := ⟨rfl, rfl, rfl, by decide +kernel, rfl, by decide +kernel, by decide +kernel⟩
theorem ok__law_position (F : FnP K "_law_position" "_law_position" s__law_position f fd) (Z : Free mg) (U__law_take : Use T.prog T.w K mg base "_law_take" 1 ["_law_draws_here", "_law_many"] (spR T po__law_take) f0 fd0) : FnOk T.prog T.w K mg base CX0 2 f fd ["_law_draws_here", "_law_pegs", "_law_discs"] (spR T po__law_position) := by
  have sc := sc__law_position
  refine okR (T := T) F sc (fun ds P h => ?_) fun cdv A outer s H E hr => ⟨_, (pss_cons (ps_set (i := 3) sc.nd rfl (by first | exact Or.inl rfl | exact Or.inr rfl) (pe_use U__law_take (hr.mono (by decide)) (by rfl) (pa_cons (pv 0) (pa_cons pe_int pa_nil))))
        (pss_cons (ps_own (ps_set (i := 4) sc.nd rfl (by first | exact Or.inl rfl | exact Or.inr rfl) (pe_lst (pa_cons (pe_use U__law_take (hr.mono (by decide)) (by rfl) (pa_cons (pv 0) (pa_cons (pv 1) pa_nil))) pa_nil))))
        (pss_cons (ps_for PassesOwn.never rfl (pi_range1 (by rfl) Z.range (pa_cons (pv 2) pa_nil)) (pg_name (i := 5) sc.nd rfl (by first | exact Or.inl rfl | exact Or.inr rfl)) (pss_one (ps_if (pt_cmpR (o_eqK (K := K) rfl (hu64 hr)) (pv 3) pe_int (nomark _)) (pss_one (ps_expr (pe_bm PySem.F.plainAttrs_list PySem.F.slot_list_append PySem.F.type_list_append mt_append (pv 4) (pa_cons (pe_bor 4 (pe_ix (ix_seqK (K := K) rfl) (pv 4) pe_int (fun _ _ => rfl))) pa_nil)))) (pss_one (ps_if (PW.pt (pw_and (pt_cmpR (o_eqK (K := K) rfl (hu64 hr)) (pv 3) pe_int (nomark _)) (pw_and1 (pt_cmpR (o_eqK (K := K) rfl (hu64 hr)) (pe_use U__law_take (hr.mono (by decide)) (by rfl) (pa_cons (pv 0) (pa_cons pe_int pa_nil))) pe_int (nomark _))))) (pss_one (ps_expr (pe_bm PySem.F.plainAttrs_list PySem.F.slot_list_append PySem.F.type_list_append mt_append (pv 4) (pa_cons (pe_bor 4 (pe_ix (ix_seqK (K := K) rfl) (pv 4) (pv 5) (fun _ _ => rfl))) pa_nil)))) (pss_one (ps_expr (pe_bm PySem.F.plainAttrs_list PySem.F.slot_list_append PySem.F.type_list_append mt_append (pv 4) (pa_cons (pe_use U__law_take (hr.mono (by decide)) (by rfl) (pa_cons (pv 0) (pa_cons (pv 1) pa_nil))) pa_nil)))))))))
        (pss_one (ps_frz 4 (ps_ret (pe_callTy (c_tuple2 (K := K) rfl) (by rfl) Z.tuple bt_tuple (pa_cons (pe_slice (sl_anyK (K := K) rfl) (pv 4) (po_some pe_int) po_none) pa_nil)))))))), fun ds P h => ?_⟩
  · obtain ⟨k, n, rfl, _⟩ := h; rfl
  · obtain ⟨k, n, rfl, p0, p1, h⟩ := h
    refine Left.mk ?_
    simp [argsOf, and_assoc, po__law_take]
    refine fun w w1 w2 => ⟨by omega, fun x x1 x2 => ⟨by omega, by omega, fun i ρ => ∃ (r : List Int) (o5 : Option Kn), ρ = [some .dr, some (.v (.int k)), some (.v (.int n)), some (.v (.int w)), some (.o (r.map .int)), o5] ∧ r.length = i + 1 ∧ ∀ y ∈ r, 0 ≤ y ∧ y < k, ⟨[x], _, rfl, rfl, fun y hy => by rw [List.mem_singleton.mp hy]; exact ⟨x1, x2⟩⟩, ?_, ?_⟩⟩
    · rintro i d ρ hd ⟨r, o5, rfl, hl, hr'⟩
      obtain ⟨hi, rfl⟩ := rangeD_some hd
      have add : ∀ y : Int, 0 ≤ y → y < k → (r ++ [y]).length = i + 1 + 1 ∧ ∀ z ∈ r ++ [y], 0 ≤ z ∧ z < k := fun y y1 y2 => ⟨by simp [hl], fun z hz => by
        rcases List.mem_append.mp hz with hz | hz
        · exact hr' z hz
        · rw [List.mem_singleton.mp hz]; exact ⟨y1, y2⟩⟩
      have old : ∀ j : Nat, j < i + 1 → ∃ y, r[j]? = some y ∧ 0 ≤ y ∧ y < k := fun j hj => ⟨r[j]'(by omega), List.getElem?_eq_getElem (by omega), hr' _ (List.getElem_mem _)⟩
      simp [and_assoc]
      split
      · obtain ⟨y, hy, y1, y2⟩ := old 0 (by omega)
        exact ⟨0, rfl, _, ⟨y, hy, rfl⟩, rfl, by omega, r ++ [y], by simp, add y y1 y2⟩
      · split
        · intro z z1 z2
          split
          · obtain ⟨y, hy, y1, y2⟩ := old i (by omega)
            exact ⟨i, rfl, _, ⟨y, hy, rfl⟩, rfl, by omega, r ++ [y], by simp, add y y1 y2⟩
          · exact ⟨by omega, fun y y1 y2 => ⟨by omega, r ++ [y], by simp, add y y1 y2⟩⟩
        · exact ⟨by omega, fun y y1 y2 => ⟨by omega, r ++ [y], by simp, add y y1 y2⟩⟩
    · rintro ρ ⟨r, o5, rfl, hl, hr'⟩
      rw [rangeD_len] at hl
      cases r with
      | nil => exact absurd hl (by simp)
      | cons y r =>
        refine ⟨_, rfl, _, rfl, .inl ⟨_, rfl, ?_⟩⟩
        rw [List.map_cons, cut_1]
        exact h r ⟨fun z hz => hr' z (List.mem_cons_of_mem _ hz), by simpa using hl⟩
def po__law_tall_position : List D → (D → Prop) → Prop := fun ds P => ∃ (k n : Int), ds = [.int k, .int n] ∧ (3 ≤ k ∧ k ≤ 5) ∧ (0 ≤ n ∧ n ≤ 40) ∧ (∀ p : List Int, PosOk k n.toNat p → P (intsT p))
theorem sc__law_tall_position : FnScope ["_law_draws_here", "_law_pegs", "_law_discs", "_law_word", "_law_first", "_law_row", "_law_disc"] ["_law_draws_here", "_law_pegs", "_law_discs"] (defScope s__law_tall_position) := ⟨rfl, rfl, rfl, by decide +kernel, rfl, by decide +kernel, by decide +kernel⟩
theorem ok__law_tall_position (F : FnP K "_law_tall_position" "_law_tall_position" s__law_tall_position f fd) (Z : Free mg) (U__law_take : Use T.prog T.w K mg base "_law_take" 1 ["_law_draws_here", "_law_many"] (spR T po__law_take) f0 fd0) : FnOk T.prog T.w K mg base CX0 2 f fd ["_law_draws_here", "_law_pegs", "_law_discs"] (spR T po__law_tall_position) := by
  have sc := sc__law_tall_position
  refine okR (T := T) F sc (fun ds P h => ?_) fun cdv A outer s H E hr => ⟨_, (pss_cons (ps_set (i := 3) sc.nd rfl (by first | exact Or.inl rfl | exact Or.inr rfl) (pe_use U__law_take (hr.mono (by decide)) (by rfl) (pa_cons (pv 0) (pa_cons pe_int pa_nil))))
        (pss_cons (ps_set (i := 4) sc.nd rfl (by first | exact Or.inl rfl | exact Or.inr rfl) (pe_use U__law_take (hr.mono (by decide)) (by rfl) (pa_cons (pv 0) (pa_cons (pv 1) pa_nil))))
        (pss_cons (ps_own (ps_set (i := 5) sc.nd rfl (by first | exact Or.inl rfl | exact Or.inr rfl) (pe_lst pa_nil)))
        (pss_cons (ps_for PassesOwn.never rfl (pi_range1 (by rfl) Z.range (pa_cons (pv 2) pa_nil)) (pg_name (i := 6) sc.nd rfl (by first | exact Or.inl rfl | exact Or.inr rfl)) (pss_one (ps_if (pt_cmpR (o_eqK (K := K) rfl (hu64 hr)) (pv 3) pe_int (nomark _)) (pss_one (ps_expr (pe_bm PySem.F.plainAttrs_list PySem.F.slot_list_append PySem.F.type_list_append mt_append (pv 5) (pa_cons (pv 4) pa_nil)))) (pss_one (ps_if (pt_cmpR (o_eqK (K := K) rfl (hu64 hr)) (pv 3) pe_int (nomark _)) (pss_one (ps_expr (pe_bm PySem.F.plainAttrs_list PySem.F.slot_list_append PySem.F.type_list_append mt_append (pv 5) (pa_cons (pe_op o_mod (pe_callTy c_int (by rfl) Z.int bt_int (pa_cons (pe_op (o_plusK (K := K) rfl) (pv 4) (pv 6)) pa_nil)) (pv 1)) pa_nil)))) (pss_one (ps_expr (pe_bm PySem.F.plainAttrs_list PySem.F.slot_list_append PySem.F.type_list_append mt_append (pv 5) (pa_cons (pe_use U__law_take (hr.mono (by decide)) (by rfl) (pa_cons (pv 0) (pa_cons (pv 1) pa_nil))) pa_nil)))))))))
        (pss_one (ps_frz 5 (ps_ret (pe_callTy (c_tuple2 (K := K) rfl) (by rfl) Z.tuple bt_tuple (pa_cons (pv 5) pa_nil))))))))), fun ds P h => ?_⟩
  · obtain ⟨k, n, rfl, _⟩ := h; rfl
  · obtain ⟨k, n, rfl, p0, p1, h⟩ := h
    refine Left.mk ?_
    simp [argsOf, and_assoc, po__law_take]
    refine fun w w1 w2 => ⟨by omega, fun x x1 x2 => ⟨by omega, by omega, fun i ρ => ∃ (r : List Int) (o5 : Option Kn), ρ = [some .dr, some (.v (.int k)), some (.v (.int n)), some (.v (.int w)), some (.v (.int x)), some (.o (r.map .int)), o5] ∧ PosOk k i r, ⟨[], _, rfl, fun y hy => (nomatch hy), rfl⟩, ?_, ?_⟩⟩
    · rintro i d ρ hd ⟨r, o5, rfl, hr'⟩
      obtain ⟨hi, rfl⟩ := rangeD_some hd
      have hl := hr'.len
      have add : ∀ y : Int, 0 ≤ y → y < k → PosOk k (i + 1) (r ++ [y]) := fun y y1 y2 => ⟨fun z hz => by
        rcases List.mem_append.mp hz with hz | hz
        · exact hr'.rg z hz
        · rw [List.mem_singleton.mp hz]; exact ⟨y1, y2⟩, by simp [hl]⟩
      simp [and_assoc]
      split
      · exact ⟨by omega, r ++ [x], by simp, add x x1 x2⟩
      · split
        · exact ⟨by omega, by omega, r ++ [(x + (i : Int)) % k], by simp, add _ (Int.emod_nonneg _ (by omega)) (Int.emod_lt_of_pos _ (by omega))⟩
        · exact ⟨by omega, fun y y1 y2 => ⟨by omega, r ++ [y], by simp, add y y1 y2⟩⟩
    · rintro ρ ⟨r, o5, rfl, hr'⟩
      rw [rangeD_len] at hr'
      exact ⟨_, rfl, _, rfl, _, .inl rfl, h r hr'⟩
end
end
end DL
/-! M8: the webs that the law makes -/
namespace DL
open PySem L2 PyProof.Rows
noncomputable section
/-- the arrows made from the first n pairs -/
structure WI (k : Int) (ps : Prs) (n L : Nat) (as : List Ar) : Prop where
  ok : ∀ r ∈ as, ArOk k r
  nd : (as.map Ar.md).Nodup
  len : as.length ≤ L
  prs : ∀ r ∈ as, r.pr ∈ ps.take n
theorem WI.up {k : Int} {ps : Prs} {n L m M : Nat} {as : List Ar} (h : WI k ps n L as) (hn : n ≤ m) (hL : L ≤ M) : WI k ps m M as :=
  ⟨h.ok, h.nd, Nat.le_trans h.len hL, fun r hr => (List.take_subset_take_left ps hn) (h.prs r hr)⟩
theorem WI.add {k : Int} {ps : Prs} {n m L : Nat} {as : List Ar} {r : Ar} (h : WI k ps n L as) (hn : n ≤ m) (ok : ArOk k r) (nw : r.md ∉ as.map Ar.md) (hp : r.pr ∈ ps.take m) : WI k ps m (L + 1) (as ++ [r]) := by
  have u := h.up hn (Nat.le_refl L)
  refine ⟨fun s hs => ?_, ?_, by simpa using h.len, fun s hs => ?_⟩
  · rcases List.mem_append.mp hs with hs | hs
    · exact u.ok s hs
    · rw [List.mem_singleton.mp hs]; exact ok
  · rw [List.map_append, List.nodup_append]
    refine ⟨h.nd, by simp, fun a ha b hb e => nw ?_⟩
    have : b = r.md := by simpa using hb
    rw [← this, ← e]
    exact ha
  · rcases List.mem_append.mp hs with hs | hs
    · exact u.prs s hs
    · rw [List.mem_singleton.mp hs]; exact hp
theorem WI.fresh {k : Int} {ps : Prs} {n L : Nat} {as : List Ar} {r : Ar} (h : WI k ps n L as) (hp : r.pr ∉ ps.take n) : r.md ∉ as.map Ar.md := fun z => by
  obtain ⟨s, hs, e⟩ := List.mem_map.mp z
  have e2 := md_mark.mp e
  simp only [Ar.mark, Prod.mk.injEq] at e2
  have : s.pr = r.pr := by unfold Ar.pr; rw [e2.1, e2.2.1]
  exact hp (this ▸ h.prs s hs)
theorem wok_perm {k : Int} {w v : List Ar} (p : v.Perm w) (h : WOk k w) : WOk k v := ⟨fun r hr => h.ok r (p.mem_iff.mp hr), ((p.map Ar.md).nodup_iff).mpr h.nd, by rw [p.length_eq]; exact h.few⟩
def WRho (k : Int) (x : Str) (as ms : List Ar) (o5 o6 : Option Kn) : En := [some .dr, some (.v (.int k)), some (.v (.str x)), some (.o (as.map Ar.d)), some (.o (ms.map Ar.md)), o5, o6]
theorem c_rg {c : Int} (h1 : 1 ≤ c) (h2 : c ≤ 1000000000) : 1 ≤ c ∧ c ≤ 10 ^ 60 := ⟨h1, Int.le_trans h2 (by decide)⟩
end
end DL
namespace DL
open PySem L2 PyProof.Rows
noncomputable section
section
variable {T : Tx} {K : PySem.W.Frag} {mg : Str → Option Value} {base : Heap} {f f0 f1 f2 f3 f4 f5 f6 f7 : Addr} {fd fd0 fd1 fd2 fd3 fd4 fd5 fd6 fd7 : FuncData} [ci : CI T K] [n1 : NoF "turned"] [n2 : NoF "renamed"] [n3 : NoF "guards"]
def PRho (k w : Int) (ps : Prs) (o4 o5 o6 o7 : Option Kn) : En := [some .dr, some (.v (.int k)), some (.v (.int w)), some (.o (ps.map prD)), o4, o5, o6, o7]
structure PrI (k : Int) (i j : Nat) (ps : Prs) : Prop where
  nd : ps.Nodup
  rg : ∀ q ∈ ps, (0 ≤ q.1 ∧ q.1 < k) ∧ (0 ≤ q.2 ∧ q.2 < k) ∧ q.1 ≠ q.2
  lt : ∀ q ∈ ps, q.1 < (i : Int) ∨ q.1 = (i : Int) ∧ q.2 < (j : Int)
def allPrs : Prs := [(0,0),(0,1),(0,2),(0,3),(0,4),(1,0),(1,1),(1,2),(1,3),(1,4),(2,0),(2,1),(2,2),(2,3),(2,4),(3,0),(3,1),(3,2),(3,3),(3,4),(4,0),(4,1),(4,2),(4,3),(4,4)]
theorem PrI.len {k : Int} (hk : k ≤ 5) {i j : Nat} {ps : Prs} (h : PrI k i j ps) : ps.length ≤ 25 := nodup_le (l2 := allPrs) h.nd fun q hq => by
  obtain ⟨h1, h2, h3⟩ := h.rg q hq
  obtain ⟨a, b⟩ := q
  simp only at h1 h2
  have ea : a = 0 ∨ a = 1 ∨ a = 2 ∨ a = 3 ∨ a = 4 := by omega
  have eb : b = 0 ∨ b = 1 ∨ b = 2 ∨ b = 3 ∨ b = 4 := by omega
  rcases ea with rfl | rfl | rfl | rfl | rfl <;> rcases eb with rfl | rfl | rfl | rfl | rfl <;> decide
theorem PrI.up {k : Int} {i j : Nat} {ps : Prs} (h : PrI k i j ps) : PrI k i (j + 1) ps := ⟨h.nd, h.rg, fun q hq => by have := h.lt q hq; omega⟩
theorem PrI.row {k : Int} {i j : Nat} {ps : Prs} (h : PrI k i j ps) : PrI k (i + 1) 0 ps := ⟨h.nd, h.rg, fun q hq => by have := h.lt q hq; omega⟩
theorem PrI.add {k : Int} {i j : Nat} {ps : Prs} (h : PrI k i j ps) (hi : (i : Int) < k) (hj : (j : Int) < k) (ne : ¬ (i : Int) = (j : Int)) : PrI k i (j + 1) (ps ++ [((i : Int), (j : Int))]) := by
  refine ⟨List.nodup_append.mpr ⟨h.nd, by simp, fun a ha b hb e => ?_⟩, fun q hq => ?_, fun q hq => ?_⟩
  · rw [List.mem_singleton.mp hb] at e
    have := h.lt a ha
    rw [e] at this
    simp only at this
    omega
  · rcases List.mem_append.mp hq with hq | hq
    · exact h.rg q hq
    · rw [List.mem_singleton.mp hq]
      exact ⟨⟨by simp only; omega, hi⟩, ⟨by simp only; omega, hj⟩, ne⟩
  · rcases List.mem_append.mp hq with hq | hq
    · have := h.lt q hq; omega
    · rw [List.mem_singleton.mp hq]
      exact .inr ⟨rfl, by show (j : Int) < ((j + 1 : Nat) : Int); omega⟩
def PJ (k w : Int) (i j : Nat) (ps : Prs) (m : Prop) : En → Prop := fun ρ => ∃ (qs : Prs) (b c : Bool), ρ = PRho k w qs (some (.v (.int i))) (some (.v (.int j))) (some (.v (.bl b))) (some (.v (.bl c))) ∧ (qs = ps ∨ qs = ps ++ [((i : Int), (j : Int))] ∧ m)
theorem pj_app {k w : Int} {i j : Nat} {ps : Prs} {m : Prop} {b c : Bool} (hl : ps.length ≤ 25) (hm : m) : ∃ ds, (PRho k w ps (some (.v (.int i))) (some (.v (.int j))) (some (.v (.bl b))) (some (.v (.bl c))))[3]? = some (some (Kn.o ds)) ∧ ∃ d, (PRho k w ps (some (.v (.int i))) (some (.v (.int j))) (some (.v (.bl b))) (some (.v (.bl c))))[4]? = some (some (Kn.v d)) ∧
    ∃ d1, (PRho k w ps (some (.v (.int i))) (some (.v (.int j))) (some (.v (.bl b))) (some (.v (.bl c))))[5]? = some (some (Kn.v d1)) ∧ ds.length < 10000 ∧ PJ k w i j ps m (List.set (PRho k w ps (some (.v (.int i))) (some (.v (.int j))) (some (.v (.bl b))) (some (.v (.bl c)))) 3 (some (Kn.o (ds ++ [D.tup [d, d1]])))) :=
  ⟨_, rfl, _, rfl, _, rfl, by rw [List.length_map]; omega, ps ++ [((i : Int), (j : Int))], b, c, by simp [PRho, prD], .inr ⟨rfl, hm⟩⟩
theorem pj_keep {k w : Int} {i j : Nat} {ps qs : Prs} {m m' : Prop} {b c : Bool} (hq : qs = ps ∨ qs = ps ++ [((i : Int), (j : Int))] ∧ m) (hm : m → m') : PJ k w i j ps m' (PRho k w qs (some (.v (.int i))) (some (.v (.int j))) (some (.v (.bl b))) (some (.v (.bl c)))) := ⟨qs, b, c, rfl, hq.imp id (And.imp id hm)⟩
def po__law_pairs : List D → (D → Prop) → Prop := fun ds P => ∃ (k : Int), ds = [.int k] ∧ (3 ≤ k ∧ k ≤ 5) ∧ (∀ ps : Prs, ps.Nodup → ps.length ≤ 25 → (∀ q ∈ ps, (0 ≤ q.1 ∧ q.1 < k) ∧ (0 ≤ q.2 ∧ q.2 < k) ∧ q.1 ≠ q.2) → P (.lst (ps.map prD)))
theorem sc__law_pairs : FnScope ["_law_draws_here", "_law_pegs", "_law_shape", "_law_pairs_here", "_law_start", "_law_stop", "_law_ring", "_law_row"] ["_law_draws_here", "_law_pegs"] (defScope s__law_pairs) := ⟨rfl, rfl, rfl, by decide +kernel, rfl, by decide +kernel, by decide +kernel⟩
theorem ok__law_pairs (F : FnP K "_law_pairs" "_law_pairs" s__law_pairs f fd) (Z : Free mg) (U__law_take : Use T.prog T.w K mg base "_law_take" 1 ["_law_draws_here", "_law_many"] (spR T po__law_take) f0 fd0) : FnOk T.prog T.w K mg base CX0 2 f fd ["_law_draws_here", "_law_pegs"] (spR T po__law_pairs) := by
  have sc := sc__law_pairs
  refine okR (T := T) F sc (fun ds P h => ?_) fun cdv A outer s H E hr => ⟨_, (pss_cons (ps_set (i := 2) sc.nd rfl (by first | exact Or.inl rfl | exact Or.inr rfl) (pe_use U__law_take (hr.mono (by decide)) (by rfl) (pa_cons (pv 0) (pa_cons pe_int pa_nil))))
        (pss_cons (ps_own (ps_set (i := 3) sc.nd rfl (by first | exact Or.inl rfl | exact Or.inr rfl) (pe_lst pa_nil)))
        (pss_cons (ps_for PassesOwn.never rfl (pi_range1 (by rfl) Z.range (pa_cons (pv 1) pa_nil)) (pg_name (i := 4) sc.nd rfl (by first | exact Or.inl rfl | exact Or.inr rfl)) (pss_one (ps_for PassesOwn.never rfl (pi_range1 (by rfl) Z.range (pa_cons (pv 1) pa_nil)) (pg_name (i := 5) sc.nd rfl (by first | exact Or.inl rfl | exact Or.inr rfl)) (pss_one (ps_if (pt_cmpR (o_neK (K := K) rfl (hu64 hr)) (pv 4) (pv 5) (nomark _)) (pss_consJ (ps_set (i := 6) sc.nd rfl (by first | exact Or.inl rfl | exact Or.inr rfl) (pe_or (pe_cmpR (o_eqK (K := K) rfl (hu64 hr)) (pv 5) (pe_op (o_plusK (K := K) rfl) (pv 4) pe_int) (nomark _)) (pe_one (pe_and (pe_cmpR (o_eqK (K := K) rfl (hu64 hr)) (pv 4) (pe_op o_sub (pv 1) pe_int) (nomark _)) (pe_one (pe_cmpR (o_eqK (K := K) rfl (hu64 hr)) (pv 5) pe_int (nomark _)))))))
        (pss_consJ (ps_set (i := 7) sc.nd rfl (by first | exact Or.inl rfl | exact Or.inr rfl) (pe_or (pe_cmpR (o_eqK (K := K) rfl (hu64 hr)) (pv 5) (pe_op (o_plusK (K := K) rfl) (pv 4) pe_int) (nomark _)) (pe_one (pe_cmpR (o_eqK (K := K) rfl (hu64 hr)) (pv 4) (pe_op (o_plusK (K := K) rfl) (pv 5) pe_int) (nomark _)))))
        (pss_consJ (ps_if (PW.pt (pw_and (pt_cmpR (o_eqK (K := K) rfl (hu64 hr)) (pv 2) pe_int (nomark _)) (pw_and1 (pt_val (pv 6))))) (pss_one (ps_expr (pe_bm PySem.F.plainAttrs_list PySem.F.slot_list_append PySem.F.type_list_append mt_append (pv 3) (pa_cons (pe_tup (pa_cons (pv 4) (pa_cons (pv 5) pa_nil))) pa_nil)))) pss_nil)
        (pss_consJ (ps_if (PW.pt (pw_and (pt_cmpR (o_eqK (K := K) rfl (hu64 hr)) (pv 2) pe_int (nomark _)) (pw_and1 (pt_cmpR (o_eqK (K := K) rfl (hu64 hr)) (pe_use U__law_take (hr.mono (by decide)) (by rfl) (pa_cons (pv 0) (pa_cons pe_int pa_nil))) pe_int (nomark _))))) (pss_one (ps_expr (pe_bm PySem.F.plainAttrs_list PySem.F.slot_list_append PySem.F.type_list_append mt_append (pv 3) (pa_cons (pe_tup (pa_cons (pv 4) (pa_cons (pv 5) pa_nil))) pa_nil)))) pss_nil)
        (pss_consJ (ps_if (PW.pt (pw_and (pt_cmpR (o_eqK (K := K) rfl (hu64 hr)) (pv 2) pe_int (nomark _)) (pw_and1 (pt_val (pv 7))))) (pss_one (ps_expr (pe_bm PySem.F.plainAttrs_list PySem.F.slot_list_append PySem.F.type_list_append mt_append (pv 3) (pa_cons (pe_tup (pa_cons (pv 4) (pa_cons (pv 5) pa_nil))) pa_nil)))) pss_nil)
        (pss_consJ (ps_if (pt_cmpR (o_eqK (K := K) rfl (hu64 hr)) (pv 2) pe_int (nomark _)) (pss_one (ps_expr (pe_bm PySem.F.plainAttrs_list PySem.F.slot_list_append PySem.F.type_list_append mt_append (pv 3) (pa_cons (pe_tup (pa_cons (pv 4) (pa_cons (pv 5) pa_nil))) pa_nil)))) pss_nil)
        (pss_consJ (ps_if (PW.pt (pw_and (pt_cmpR (o_inK (K := K) rfl (hu65 hr)) (pv 2) (pe_tup (pa_cons pe_int (pa_cons pe_int pa_nil))) (by rfl)) (pw_and1 (pt_cmpR (o_eqK (K := K) rfl (hu64 hr)) (pe_use U__law_take (hr.mono (by decide)) (by rfl) (pa_cons (pv 0) (pa_cons pe_int pa_nil))) pe_int (nomark _))))) (pss_one (ps_expr (pe_bm PySem.F.plainAttrs_list PySem.F.slot_list_append PySem.F.type_list_append mt_append (pv 3) (pa_cons (pe_tup (pa_cons (pv 4) (pa_cons (pv 5) pa_nil))) pa_nil)))) pss_nil)
        (pss_one (ps_if (PW.pt (pw_and (pt_cmpR (o_eqK (K := K) rfl (hu64 hr)) (pv 2) pe_int (nomark _)) (pw_and1 (pt_cmpR (o_eqK (K := K) rfl (hu64 hr)) (pe_op (o_plusK (K := K) rfl) (pv 4) (pv 5)) pe_int (nomark _))))) (pss_one (ps_expr (pe_bm PySem.F.plainAttrs_list PySem.F.slot_list_append PySem.F.type_list_append mt_append (pv 3) (pa_cons (pe_tup (pa_cons (pv 4) (pa_cons (pv 5) pa_nil))) pa_nil)))) pss_nil))))))))) pss_nil)))))
        (pss_one (ps_ret (pvo 3 (pv 3))))))), fun ds P h => ?_⟩
  · obtain ⟨k, rfl, _⟩ := h; rfl
  · obtain ⟨k, rfl, p0, h⟩ := h
    refine Left.mk ?_
    simp (maxSteps := 3000000) [argsOf, and_assoc, po__law_take]
    refine fun w w1 w2 => ⟨by omega, by omega, fun i ρ => ∃ (ps : Prs) (o4 o5 o6 o7 : Option Kn), ρ = PRho k w ps o4 o5 o6 o7 ∧ PrI k i 0 ps, ⟨[], _, _, _, _, rfl, ⟨by simp, fun q hq => (nomatch hq), fun q hq => (nomatch hq)⟩⟩, ?_, ?_⟩
    · rintro i d ρ hd ⟨ps, o4, o5, o6, o7, rfl, hps⟩
      obtain ⟨hi, rfl⟩ := rangeD_some hd
      refine ⟨_, rfl, k, rfl, by omega, by omega, fun j ρ => ∃ (ps : Prs) (o5 o6 o7 : Option Kn), ρ = PRho k w ps (some (.v (.int i))) o5 o6 o7 ∧ PrI k i j ps, ⟨ps, _, _, _, rfl, hps⟩, ?_, ?_⟩
      · rintro j d ρ hd ⟨ps, o5, o6, o7, rfl, hps⟩
        obtain ⟨hj, rfl⟩ := rangeD_some hd
        refine ⟨_, rfl, _, rfl, eqOk_int _ _, ?_⟩
        have hl := hps.len p0.2
        by_cases hij : (i : Int) = j
        · exact .inl ⟨by rw [hij], ps, _, _, _, rfl, hps.up⟩
        · refine .inr ⟨fun e => hij (D.int.inj e), fun ρ => ∃ b, ρ = PRho k w ps (some (.v (.int i))) (some (.v (.int j))) (some (.v (.bl b))) o7, ⟨_, rfl, _, rfl, _, rfl, eqOk_int _ _, ?_⟩, ?_⟩
          · split
            · exact ⟨true, rfl⟩
            · refine ⟨_, rfl, _, rfl, _, rfl, eqOk_int _ _, ?_⟩
              split
              · exact ⟨_, rfl, eqOk_int _ _, _, rfl⟩
              · exact ⟨false, rfl⟩
          rintro ρ ⟨b, rfl⟩
          refine ⟨PJ k w i j ps False, ⟨_, rfl, _, rfl, _, rfl, eqOk_int _ _, ?_⟩, ?_⟩
          · split
            · exact ⟨ps, b, true, rfl, .inl rfl⟩
            · exact ⟨_, rfl, _, rfl, _, rfl, eqOk_int _ _, ps, b, _, rfl, .inl rfl⟩
          rintro ρ ⟨qs, b, c, rfl, hq⟩
          refine ⟨PJ k w i j ps (w ≤ 0), ⟨_, rfl, eqOk_int _ _, ?_⟩, ?_⟩
          · split
            · rename_i e
              have e := D.int.inj e
              refine ⟨_, rfl, ?_⟩
              rcases hq with rfl | ⟨_, hm⟩
              · cases b
                · exact .inl ⟨rfl, pj_keep (m := False) (.inl rfl) fun z => z.elim⟩
                · exact .inr ⟨rfl, pj_app hl (by omega)⟩
              · exact hm.elim
            · exact pj_keep hq fun z => z.elim
          rintro ρ ⟨qs, b, c, rfl, hq⟩
          refine ⟨PJ k w i j ps (w ≤ 1), ⟨_, rfl, eqOk_int _ _, ?_⟩, ?_⟩
          · split
            · rename_i e
              have e := D.int.inj e
              refine ⟨rfl, fun z z1 z2 => ?_⟩
              rcases hq with rfl | ⟨_, hm⟩
              · split
                · exact pj_app hl (by omega)
                · exact pj_keep (m := False) (.inl rfl) fun z => z.elim
              · omega
            · exact pj_keep hq fun z => by omega
          rintro ρ ⟨qs, b, c, rfl, hq⟩
          refine ⟨PJ k w i j ps (w ≤ 2), ⟨_, rfl, eqOk_int _ _, ?_⟩, ?_⟩
          · split
            · rename_i e
              have e := D.int.inj e
              refine ⟨_, rfl, ?_⟩
              rcases hq with rfl | ⟨_, hm⟩
              · cases c
                · exact .inl ⟨rfl, pj_keep (m := False) (.inl rfl) fun z => z.elim⟩
                · exact .inr ⟨rfl, pj_app hl (by omega)⟩
              · omega
            · exact pj_keep hq fun z => by omega
          rintro ρ ⟨qs, b, c, rfl, hq⟩
          refine ⟨PJ k w i j ps (w ≤ 3), ⟨_, rfl, eqOk_int _ _, ?_⟩, ?_⟩
          · split
            · rename_i e
              have e := D.int.inj e
              rcases hq with rfl | ⟨_, hm⟩
              · exact pj_app hl (by omega)
              · omega
            · exact pj_keep hq fun z => by omega
          rintro ρ ⟨qs, b, c, rfl, hq⟩
          refine ⟨PJ k w i j ps (w ≠ 5), ⟨_, rfl, rfl, ?_⟩, ?_⟩
          · split
            · rename_i e
              have e : w = 4 ∨ w = 6 := e.imp D.int.inj D.int.inj
              refine ⟨rfl, fun z z1 z2 => ?_⟩
              rcases hq with rfl | ⟨_, hm⟩
              · split
                · exact pj_app hl (by omega)
                · exact pj_keep (m := False) (.inl rfl) fun z => z.elim
              · omega
            · exact pj_keep hq fun z => by omega
          rintro ρ ⟨qs, b, c, rfl, hq⟩
          have fin : PrI k i (j + 1) qs := by
            rcases hq with rfl | ⟨rfl, _⟩
            · exact hps.up
            · exact hps.add (by omega) (by omega) hij
          refine ⟨_, rfl, eqOk_int _ _, ?_⟩
          split
          · rename_i e
            have e := D.int.inj e
            rcases hq with rfl | ⟨_, hm⟩
            · refine ⟨_, rfl, _, rfl, .inl ⟨_, rfl, _, rfl, ?_⟩⟩
              split
              · exact ⟨_, rfl, _, rfl, _, rfl, by rw [List.length_map]; omega, qs ++ [((i : Int), (j : Int))], some (.v (.int j)), some (.v (.bl b)), some (.v (.bl c)), by simp [PRho, prD], hps.add (by omega) (by omega) hij⟩
              · exact ⟨_, _, _, _, rfl, fin⟩
            · exact absurd e hm
          · exact ⟨qs, _, _, _, rfl, fin⟩
      · rintro ρ ⟨ps, o5, o6, o7, rfl, hps⟩
        exact ⟨_, _, _, _, _, rfl, hps.row⟩
    · rintro ρ ⟨ps, o4, o5, o6, o7, rfl, hps⟩
      exact ⟨_, rfl, h ps hps.nd (hps.len p0.2) hps.rg⟩
end
end
end DL
/-! M9: lists of webs -/
namespace DL
open PySem L2 PyProof.Rows
noncomputable section
abbrev websD (ws : List (List Ar)) : D := .lst (ws.map fun w => .lst (w.map Ar.d))
end
end DL
namespace DL
open PySem L2 PyProof.Rows
noncomputable section
section
variable {T : Tx} {K : PySem.W.Frag} {mg : Str → Option Value} {base : Heap} {f f0 f1 f2 f3 f4 f5 f6 f7 : Addr} {fd fd0 fd1 fd2 fd3 fd4 fd5 fd6 fd7 : FuncData} [ci : CI T K] [n1 : NoF "turned"] [n2 : NoF "renamed"] [n3 : NoF "guards"]
def po__law_web : List D → (D → Prop) → Prop := fun ds P => ∃ (k : Int) (x : Str), ds = [.int k, .str x] ∧ (3 ≤ k ∧ k ≤ 5) ∧ (∀ w : List Ar, WOk k w → w.length ≤ 50 → P (.lst (w.map Ar.d)))
theorem sc__law_web : FnScope ["_law_draws_here", "_law_pegs", "_law_kind_here", "_law_arrows", "_law_marks", "_law_pair", "_law_guard_here"] ["_law_draws_here", "_law_pegs", "_law_kind_here"] (defScope s__law_web) := ⟨rfl, rfl, rfl, by decide +kernel, rfl, by decide +kernel, by decide +kernel⟩
theorem ok__law_web (F : FnP K "_law_web" "_law_web" s__law_web f fd) (Z : Free mg) (U__law_pairs : Use T.prog T.w K mg base "_law_pairs" 2 ["_law_draws_here", "_law_pegs"] (spR T po__law_pairs) f0 fd0) (U__law_take : Use T.prog T.w K mg base "_law_take" 1 ["_law_draws_here", "_law_many"] (spR T po__law_take) f1 fd1) (U__law_cost : Use T.prog T.w K mg base "_law_cost" 2 ["_law_draws_here"] (spR T po__law_cost) f2 fd2) (U__law_guard : Use T.prog T.w K mg base "_law_guard" 2 ["_law_draws_here", "_law_pegs", "_law_start", "_law_stop", "_law_kind_here"] (spR T po__law_guard) f3 fd3) : FnOk T.prog T.w K mg base CX0 3 f fd ["_law_draws_here", "_law_pegs", "_law_kind_here"] (spR T po__law_web) := by
  have sc := sc__law_web
  refine okR (T := T) F sc (fun ds P h => ?_) fun cdv A outer s H E hr => ⟨_, (pss_cons (ps_own (ps_set (i := 3) sc.nd rfl (by first | exact Or.inl rfl | exact Or.inr rfl) (pe_lst pa_nil)))
        (pss_cons (ps_own (ps_set (i := 4) sc.nd rfl (by first | exact Or.inl rfl | exact Or.inr rfl) (pe_lst pa_nil)))
        (pss_cons (ps_for PassesOwn.never rfl (pi_seqK (K := K) rfl (pe_use U__law_pairs (hr.mono (by decide)) (by rfl) (pa_cons (pv 0) (pa_cons (pv 1) pa_nil)))) (pg_name (i := 5) sc.nd rfl (by first | exact Or.inl rfl | exact Or.inr rfl)) (pss_consJ (ps_set (i := 6) sc.nd rfl (by first | exact Or.inl rfl | exact Or.inr rfl) (pe_use U__law_guard (hr.mono (by decide)) (by rfl) (pa_cons (pv 0) (pa_cons (pv 1) (pa_cons (pe_ix (ix_seqK (K := K) rfl) (pv 5) pe_int (fun _ _ => rfl)) (pa_cons (pe_ix (ix_seqK (K := K) rfl) (pv 5) pe_int (fun _ _ => rfl)) (pa_cons (pv 2) pa_nil)))))))
        (pss_consJ (ps_expr (pe_bm PySem.F.plainAttrs_list PySem.F.slot_list_append PySem.F.type_list_append mt_append (pv 4) (pa_cons (pe_tup (pa_cons (pe_ix (ix_seqK (K := K) rfl) (pv 5) pe_int (fun _ _ => rfl)) (pa_cons (pe_ix (ix_seqK (K := K) rfl) (pv 5) pe_int (fun _ _ => rfl)) (pa_cons (pv 6) pa_nil)))) pa_nil)))
        (pss_consJ (ps_expr (pe_bm PySem.F.plainAttrs_list PySem.F.slot_list_append PySem.F.type_list_append mt_append (pv 3) (pa_cons (pe_tup (pa_cons (pe_ix (ix_seqK (K := K) rfl) (pv 5) pe_int (fun _ _ => rfl)) (pa_cons (pe_ix (ix_seqK (K := K) rfl) (pv 5) pe_int (fun _ _ => rfl)) (pa_cons (pv 6) (pa_cons (pe_use U__law_cost (hr.mono (by decide)) (by rfl) (pa_cons (pv 0) pa_nil)) pa_nil))))) pa_nil)))
        (pss_one (ps_if (pt_cmpR (o_eqK (K := K) rfl (hu64 hr)) (pe_use U__law_take (hr.mono (by decide)) (by rfl) (pa_cons (pv 0) (pa_cons pe_int pa_nil))) pe_int (nomark _)) (pss_consJ (ps_set (i := 6) sc.nd rfl (by first | exact Or.inl rfl | exact Or.inr rfl) (pe_use U__law_guard (hr.mono (by decide)) (by rfl) (pa_cons (pv 0) (pa_cons (pv 1) (pa_cons (pe_ix (ix_seqK (K := K) rfl) (pv 5) pe_int (fun _ _ => rfl)) (pa_cons (pe_ix (ix_seqK (K := K) rfl) (pv 5) pe_int (fun _ _ => rfl)) (pa_cons (pv 2) pa_nil)))))))
        (pss_one (ps_if (pt_bor 4 (pt_cmpR (o_notInK (K := K) rfl (hu65 hr)) (pe_tup (pa_cons (pe_ix (ix_seqK (K := K) rfl) (pv 5) pe_int (fun _ _ => rfl)) (pa_cons (pe_ix (ix_seqK (K := K) rfl) (pv 5) pe_int (fun _ _ => rfl)) (pa_cons (pv 6) pa_nil)))) (pv 4) (by rfl))) (pss_consJ (ps_expr (pe_bm PySem.F.plainAttrs_list PySem.F.slot_list_append PySem.F.type_list_append mt_append (pv 4) (pa_cons (pe_tup (pa_cons (pe_ix (ix_seqK (K := K) rfl) (pv 5) pe_int (fun _ _ => rfl)) (pa_cons (pe_ix (ix_seqK (K := K) rfl) (pv 5) pe_int (fun _ _ => rfl)) (pa_cons (pv 6) pa_nil)))) pa_nil)))
        (pss_one (ps_expr (pe_bm PySem.F.plainAttrs_list PySem.F.slot_list_append PySem.F.type_list_append mt_append (pv 3) (pa_cons (pe_tup (pa_cons (pe_ix (ix_seqK (K := K) rfl) (pv 5) pe_int (fun _ _ => rfl)) (pa_cons (pe_ix (ix_seqK (K := K) rfl) (pv 5) pe_int (fun _ _ => rfl)) (pa_cons (pv 6) (pa_cons (pe_use U__law_cost (hr.mono (by decide)) (by rfl) (pa_cons (pv 0) pa_nil)) pa_nil))))) pa_nil))))) pss_nil))) pss_nil))))))
        (pss_one (ps_frz 3 (ps_ret (pe_callB (c_sort2 (T := T) (K := K) rfl ⟨rfl, rfl⟩ rfl (hu65 hr)) (by rfl) Z.sorted bt_sorted (pa_cons (pv 3) pa_nil)))))))), fun ds P h => ?_⟩
  · obtain ⟨k, x, rfl, _⟩ := h; rfl
  · obtain ⟨k, x, rfl, p0, h⟩ := h
    refine Left.mk ?_
    simp (maxSteps := 3000000) [argsOf, and_assoc, po__law_take, po__law_pairs, po__law_guard, po__law_cost]
    refine ⟨p0.1, p0.2, fun ps hnd hl hr' => ⟨fun i ρ => ∃ (as : List Ar) (o5 o6 : Option Kn), ρ = WRho k x as as o5 o6 ∧ WI k ps i (2 * i) as, ⟨[], _, _, rfl, fun r hr => (nomatch hr), .nil, by simp, fun r hr => (nomatch hr)⟩, ?_, ?_⟩⟩
    · rintro i d ρ a b hp rfl ⟨as, o5, o6, rfl, hw⟩
      obtain ⟨ra, rb, nab⟩ : (0 ≤ a ∧ a < k) ∧ (0 ≤ b ∧ b < k) ∧ a ≠ b := by
        have := hr' a b (mem_get hp)
        first
          | exact this
          | exact ⟨⟨this.1, this.2.1⟩, ⟨this.2.2.1, this.2.2.2.1⟩, this.2.2.2.2⟩
      have wl := hw.len
      have il : i < ps.length := (List.getElem?_eq_some_iff.mp hp).1
      have pin : (a, b) ∈ ps.take (i + 1) := by rw [take_next hp]; simp
      have pout : (a, b) ∉ ps.take i := nodup_take hnd hp
      have mk : ∀ {g : List Int} {c : Int}, GOk k g → a ∉ g → b ∉ g → 1 ≤ c → c ≤ 1000000000 → ArOk k ⟨a, b, g, c⟩ := fun q1 q2 q3 c1 c2 => ⟨ra, rb, nab, q1, q2, q3, c_rg c1 c2⟩
      refine ⟨rfl, fun ρ => ∃ g : List Int, ρ = WRho k x as as (some (.v (prD (a, b)))) (some (.v (intsT g))) ∧ GOk k g ∧ a ∉ g ∧ b ∉ g, ⟨_, rfl, _, rfl, _, .inr rfl, 0, rfl, _, rfl, _, rfl, _, .inr rfl, 1, rfl, _, rfl, _, rfl, k, rfl, a, rfl, b, rfl, ⟨x, rfl⟩, p0.1, p0.2, ra.1, ra.2, rb.1, rb.2, nab, fun g q1 q2 q3 => ⟨g, rfl, q1, q2, q3⟩⟩, ?_⟩
      rintro ρ ⟨g, rfl, q1, q2, q3⟩
      refine ⟨fun ρ => ρ = WRho k x as (as ++ [⟨a, b, g, 0⟩]) (some (.v (prD (a, b)))) (some (.v (intsT g))), ⟨_, rfl, _, rfl, _, .inr rfl, 0, rfl, _, rfl, _, rfl, _, .inr rfl, 1, rfl, _, rfl, _, rfl, by rw [List.length_map]; omega, by simp [WRho, Ar.md]⟩, ?_⟩
      rintro ρ rfl
      refine ⟨fun ρ => ∃ (as : List Ar) (o6 : Option Kn), ρ = WRho k x as as (some (.v (prD (a, b)))) o6 ∧ WI k ps (i + 1) (2 * i + 1) as, ⟨_, rfl, _, rfl, _, .inr rfl, 0, rfl, _, rfl, _, rfl, _, .inr rfl, 1, rfl, _, rfl, _, rfl, rfl, fun c c1 c2 => ⟨by rw [List.length_map]; omega, as ++ [⟨a, b, g, c⟩], _, by simp [WRho, Ar.md]; rfl, hw.add (r := ⟨a, b, g, c⟩) (by omega) (mk q1 q2 q3 c1 c2) (hw.fresh (r := ⟨a, b, g, c⟩) pout) pin⟩⟩, ?_⟩
      rintro ρ ⟨as, o6, rfl, hw⟩
      have wl := hw.len
      refine ⟨rfl, fun z z1 z2 => ?_⟩
      split
      · refine ⟨rfl, fun ρ => ∃ g : List Int, ρ = WRho k x as as (some (.v (prD (a, b)))) (some (.v (intsT g))) ∧ GOk k g ∧ a ∉ g ∧ b ∉ g, ⟨_, rfl, _, rfl, _, .inr rfl, 0, rfl, _, rfl, _, rfl, _, .inr rfl, 1, rfl, _, rfl, _, rfl, k, rfl, a, rfl, b, rfl, ⟨x, rfl⟩, p0.1, p0.2, ra.1, ra.2, rb.1, rb.2, nab, fun g q1 q2 q3 => ⟨g, rfl, q1, q2, q3⟩⟩, ?_⟩
        rintro ρ ⟨g, rfl, q1, q2, q3⟩
        refine ⟨_, rfl, _, rfl, _, .inr rfl, 0, rfl, _, rfl, _, rfl, _, .inr rfl, 1, rfl, _, rfl, _, rfl, _, rfl, _, .inl rfl, rfl, rfl, by simp, fitA_map (fun r => by simp [Ar.md]) as, ?_⟩
        by_cases hin : D.tup [D.int a, D.int b, intsT g] ∈ as.map Ar.md
        · exact .inl ⟨hin, as, _, _, rfl, hw.up (Nat.le_refl _) (by omega)⟩
        · refine .inr ⟨hin, fun ρ => ρ = WRho k x as (as ++ [⟨a, b, g, 0⟩]) (some (.v (prD (a, b)))) (some (.v (intsT g))), ⟨_, rfl, _, rfl, _, .inr rfl, 0, rfl, _, rfl, _, rfl, _, .inr rfl, 1, rfl, _, rfl, _, rfl, by rw [List.length_map]; omega, by simp [WRho, Ar.md]⟩, ?_⟩
          rintro ρ rfl
          exact ⟨_, rfl, _, rfl, _, .inr rfl, 0, rfl, _, rfl, _, rfl, _, .inr rfl, 1, rfl, _, rfl, _, rfl, rfl, fun c c1 c2 => ⟨by rw [List.length_map]; omega, as ++ [⟨a, b, g, c⟩], some (.v (prD (a, b))), some (.v (intsT g)), by simp [WRho, Ar.md], (hw.add (r := ⟨a, b, g, c⟩) (Nat.le_refl _) (mk q1 q2 q3 c1 c2) hin pin).up (Nat.le_refl _) (by omega)⟩⟩
      · exact ⟨as, _, _, rfl, hw.up (Nat.le_refl _) (by omega)⟩
    · rintro ρ ⟨as, o5, o6, rfl, hw⟩
      have l50 : as.length ≤ 50 := by have := hw.len; omega
      have : as.length ≤ 300 := by omega
      refine ⟨_, rfl, _, rfl, _, .inl rfl, sortOk_ard _, fun fs pm _ => ?_⟩
      obtain ⟨L, pm2, rfl⟩ := perm_map_inv pm as rfl
      exact h L (wok_perm pm2 ⟨hw.ok, hw.nd, this⟩) (by rw [pm2.length_eq]; exact l50)
end
end
end DL
namespace DL
open PySem L2 PyProof.Rows
noncomputable section
section
variable {T : Tx} {K : PySem.W.Frag} {mg : Str → Option Value} {base : Heap} {f f0 f1 f2 f3 f4 f5 f6 f7 : Addr} {fd fd0 fd1 fd2 fd3 fd4 fd5 fd6 fd7 : FuncData} [ci : CI T K] [n1 : NoF "turned"] [n2 : NoF "renamed"] [n3 : NoF "guards"]
def po__law_webs : List D → (D → Prop) → Prop := fun ds P => ∃ (k n : Int) (x : Str), ds = [.int k, .int n, .str x] ∧ (3 ≤ k ∧ k ≤ 5) ∧ (0 ≤ n ∧ n ≤ 40) ∧ (∀ ws : List (List Ar), WsOk k ws → (∀ w ∈ ws, w.length ≤ 50) → ws.length = n.toNat → P (websD ws))
theorem sc__law_webs : FnScope ["_law_draws_here", "_law_pegs", "_law_discs", "_law_kind_here", "_law_webs_here", "_law_plain", "_law_disc"] ["_law_draws_here", "_law_pegs", "_law_discs", "_law_kind_here"] (defScope s__law_webs) := ⟨rfl, rfl, rfl, by decide +kernel, rfl, by decide +kernel, by decide +kernel⟩
theorem ok__law_webs (F : FnP K "_law_webs" "_law_webs" s__law_webs f fd) (Z : Free mg) (U__law_web : Use T.prog T.w K mg base "_law_web" 3 ["_law_draws_here", "_law_pegs", "_law_kind_here"] (spR T po__law_web) f0 fd0) (U__law_take : Use T.prog T.w K mg base "_law_take" 1 ["_law_draws_here", "_law_many"] (spR T po__law_take) f1 fd1) : FnOk T.prog T.w K mg base CX0 4 f fd ["_law_draws_here", "_law_pegs", "_law_discs", "_law_kind_here"] (spR T po__law_webs) := by
  have sc := sc__law_webs
  refine okR (T := T) F sc (fun ds P h => ?_) fun cdv A outer s H E hr => ⟨_, (pss_cons (ps_own (ps_set (i := 4) sc.nd rfl (by first | exact Or.inl rfl | exact Or.inr rfl) (pe_lst (pa_cons (pe_use U__law_web (hr.mono (by decide)) (by rfl) (pa_cons (pv 0) (pa_cons (pv 1) (pa_cons (pv 3) pa_nil)))) pa_nil))))
        (pss_cons (ps_set (i := 5) sc.nd rfl (by first | exact Or.inl rfl | exact Or.inr rfl) (pe_cmpR (o_eqK (K := K) rfl (hu64 hr)) (pe_use U__law_take (hr.mono (by decide)) (by rfl) (pa_cons (pv 0) (pa_cons pe_int pa_nil))) pe_int (nomark _)))
        (pss_cons (ps_for PassesOwn.never rfl (pi_range1 (by rfl) Z.range (pa_cons (pv 2) pa_nil)) (pg_name (i := 6) sc.nd rfl (by first | exact Or.inl rfl | exact Or.inr rfl)) (pss_one (ps_if (pt_val (pv 5)) (pss_one (ps_expr (pe_bm PySem.F.plainAttrs_list PySem.F.slot_list_append PySem.F.type_list_append mt_append (pv 4) (pa_cons (pe_borL 4 (pe_callTy (c_list2 (K := K) rfl) (by rfl) Z.list bt_list (pa_cons (pe_ix (ix_seqK (K := K) rfl) (pv 4) pe_int (fun _ _ => rfl)) pa_nil))) pa_nil)))) (pss_one (ps_expr (pe_bm PySem.F.plainAttrs_list PySem.F.slot_list_append PySem.F.type_list_append mt_append (pv 4) (pa_cons (pe_use U__law_web (hr.mono (by decide)) (by rfl) (pa_cons (pv 0) (pa_cons (pv 1) (pa_cons (pv 3) pa_nil)))) pa_nil)))))))
        (pss_one (ps_frz 4 (ps_ret (pe_slice (sl_anyK (K := K) rfl) (pv 4) po_none (po_some (pv 2))))))))), fun ds P h => ?_⟩
  · obtain ⟨k, n, x, rfl, _⟩ := h; rfl
  · obtain ⟨k, n, x, rfl, p0, p1, h⟩ := h
    refine Left.mk ?_
    simp (maxSteps := 3000000) [argsOf, and_assoc, po__law_take, po__law_web]
    refine ⟨p0.1, p0.2, fun w0 hw0 hs0 z z1 z2 => ⟨by omega, by omega, fun i ρ => ∃ (ws : List (List Ar)) (o6 : Option Kn), ρ = [some .dr, some (.v (.int k)), some (.v (.int n)), some (.v (.str x)), some (.o ((w0 :: ws).map fun w => .lst (w.map Ar.d))), some (.v (.bl (decide (z = 0)))), o6] ∧ WsOk k ws ∧ (∀ w ∈ ws, w.length ≤ 50) ∧ ws.length = i, ⟨[], _, rfl, fun w hw => (nomatch hw), fun w hw => (nomatch hw), rfl⟩, ?_, ?_⟩⟩
    · rintro i d ρ hd ⟨ws, o6, rfl, hws, hsm, hl⟩
      obtain ⟨hi, rfl⟩ := rangeD_some hd
      have add : ∀ v : List Ar, WOk k v → v.length ≤ 50 → WsOk k (ws ++ [v]) ∧ (∀ w ∈ ws ++ [v], w.length ≤ 50) ∧ (ws ++ [v]).length = i + 1 := fun v hv hv2 => ⟨fun u hu => by
        rcases List.mem_append.mp hu with hu | hu
        · exact hws u hu
        · rw [List.mem_singleton.mp hu]; exact hv, fun u hu => by
        rcases List.mem_append.mp hu with hu | hu
        · exact hsm u hu
        · rw [List.mem_singleton.mp hu]; exact hv2, by simp [hl]⟩
      refine ⟨_, rfl, ?_⟩
      by_cases hz : z = 0
      · refine .inr ⟨by simp [hz], _, rfl, _, rfl, _, rfl, _, .inl rfl, 0, rfl, _, rfl, _, .inl rfl, imA_map (fun r => by simp) _, by simp; omega, ws ++ [w0], some (.v (.int i)), by simp, add w0 hw0 hs0⟩
      · refine .inl ⟨by simp [hz], _, rfl, rfl, _, rfl, _, rfl, k, rfl, ⟨x, rfl⟩, p0.1, p0.2, fun v hv hv2 => ⟨by simp; omega, ws ++ [v], some (.v (.int i)), by simp, add v hv hv2⟩⟩
    · rintro ρ ⟨ws, o6, rfl, hws, hsm, hl⟩
      rw [rangeD_len] at hl
      refine ⟨_, rfl, _, rfl, _, rfl, n, rfl, .inl ⟨_, rfl, ?_⟩⟩
      have en : (n : Int) = ((n.toNat : Nat) : Int) := by omega
      rw [en, cut_pre (by simp; omega), ← List.map_take]
      refine h _ (fun u hu => ?_) (fun u hu => ?_) (by simp; omega)
      · rcases List.mem_cons.mp (List.mem_of_mem_take hu) with rfl | hu
        · exact hw0
        · exact hws u hu
      · rcases List.mem_cons.mp (List.mem_of_mem_take hu) with rfl | hu
        · exact hs0
        · exact hsm u hu
def po__law_built : List D → (D → Prop) → Prop := fun ds P => ∃ (k : Int) (ws : List (List Ar)), ds = [.int k, websD ws] ∧ (3 ≤ k ∧ k ≤ 5) ∧ WsOk k ws ∧ ws.length ≤ 40 ∧ (∀ vs : List (List Ar), Paired (fun w v => List.Perm v w) ws vs → P (gameD k vs))
theorem sc__law_built : FnScope ["_law_pegs", "_law_webs_here", "_law_arrows"] ["_law_pegs", "_law_webs_here"] (defScope s__law_built) := ⟨rfl, rfl, rfl, by decide +kernel, rfl, by decide +kernel, by decide +kernel⟩
theorem ok__law_built (F : FnP K "_law_built" "_law_built" s__law_built f fd) (Z : Free mg) (m_Game : mg "Game" = some (.ref T.CG)) (U_Game : UseI T.prog T.w K mg base T.CG 3 ["self", "pegs", "webs"] (spI T T.CG po_Game___init__) f0 fd0) (m_Web : mg "Web" = some (.ref T.CW)) (U_Web : UseI T.prog T.w K mg base T.CW 7 ["self", "pegs", "arrows"] (spI T T.CW po_Web___init__) f1 fd1) : FnOk T.prog T.w K mg base CX0 9 f fd ["_law_pegs", "_law_webs_here"] (spD T po__law_built) := by
  have sc := sc__law_built
  refine okD (T := T) F sc (fun ds P h => ?_) fun cdv A outer s H E hr => ⟨_, (pss_one (ps_ret (pe_make U_Game.mkr U_Game.ok (hr.mono (by decide)) (by rfl) m_Game U_Game.b .nil pass0 (pa_cons (pv 0) (pa_cons (pe_lc (own := [("_law_arrows", 2)]) rfl sc.nd (pi_seqK (K := K) rfl (pv 1)) (blkOk_by (N := ["_law_pegs", "_law_webs_here", "_law_arrows"]) (sc := defScope s__law_built) (by decide +kernel)) (fun _ _ _ _ _ => (pg_name (i := 2) sc.nd rfl (by first | exact Or.inl rfl | exact Or.inr rfl))) (fun _ _ _ _ _ => pts_nil) (fun _ _ _ _ _ => (pe_make U_Web.mkr U_Web.ok (hr.mono (by decide)) (by rfl) m_Web U_Web.b .nil pass0 (pa_cons (pv 0) (pa_cons (pv 2) pa_nil))))) pa_nil))))), fun ds P h => ?_⟩
  · obtain ⟨k, ws, rfl, _⟩ := h; rfl
  · obtain ⟨k, ws, rfl, p0, p1, p2, h⟩ := h
    refine Left.mk ?_
    simp (maxSteps := 3000000) [argsOf, and_assoc, po_Web___init__, po_Game___init__]
    refine ⟨by omega, fun i acc => ∃ vs : List (List Ar), acc = vs.map (webD k) ∧ Paired (fun w v => List.Perm v w) (ws.take i) vs, ⟨[], rfl, .nil⟩, ?_, ?_⟩
    · rintro i d acc w hw rfl ⟨vs, rfl, pv⟩
      have ok := p1 w (mem_get hw)
      refine ⟨w.map Ar.raw0, by rw [List.map_map]; rfl, p0.1, p0.2, fun r hr => ?_, by rw [List.map_map]; exact raw0_nodup ok.ok ok.nd, by rw [List.length_map]; exact Nat.le_trans ok.few (by decide), fun ar pm => ⟨vs ++ [ar], by simp, ?_⟩⟩
      · obtain ⟨s, hs, rfl⟩ := List.mem_map.mp hr
        exact raw0_ok (ok.ok s hs)
      · rw [List.map_map, raw0_ar ok.ok] at pm
        rw [take_next hw]
        exact pd_snoc pv pm
    · rintro acc ⟨vs, rfl, pv⟩
      rw [List.take_length] at pv
      exact ⟨vs, rfl, p0.1, p0.2, by rw [← Paired.length pv]; exact p2, h vs pv⟩
def po__law_behind : List D → (D → Prop) → Prop := fun ds P => ∃ (p : List Int) (i : Nat) (y : Int), ds = [intsT p, .int i, .int y] ∧ i < p.length ∧ P (intsT (p.set i y))
theorem sc__law_behind : FnScope ["_law_position_here", "_law_disc", "_law_stop", "_law_row"] ["_law_position_here", "_law_disc", "_law_stop"] (defScope s__law_behind) := ⟨rfl, rfl, rfl, by decide +kernel, rfl, by decide +kernel, by decide +kernel⟩
theorem ok__law_behind (F : FnP K "_law_behind" "_law_behind" s__law_behind f fd) (Z : Free mg)  : FnOk T.prog T.w K mg base CX0 1 f fd ["_law_position_here", "_law_disc", "_law_stop"] (spD T po__law_behind) := by
  have sc := sc__law_behind
  refine okD (T := T) F sc (fun ds P h => ?_) fun cdv A outer s H E hr => ⟨_, (pss_cons (ps_own (ps_set (i := 3) sc.nd rfl (by first | exact Or.inl rfl | exact Or.inr rfl) (pe_callTy (c_list2 (K := K) rfl) (by rfl) Z.list bt_list (pa_cons (pv 0) pa_nil))))
        (pss_cons (ps_asg (pv 2) (pg_sub (pv 3) (pv 1) set_list))
        (pss_one (ps_frz 3 (ps_ret (pe_callTy (c_tuple2 (K := K) rfl) (by rfl) Z.tuple bt_tuple (pa_cons (pv 3) pa_nil))))))), fun ds P h => ?_⟩
  · obtain ⟨p, i, y, rfl, _⟩ := h; rfl
  · obtain ⟨p, i, y, rfl, p0, h⟩ := h
    refine Left.mk ?_
    simp (maxSteps := 3000000) [argsOf, and_assoc]
    exact ⟨i, rfl, p0, by rw [← List.map_set]; exact h⟩
def po__law_ends : List D → (List D → Prop) → Prop := fun ds P => ∃ (rs : List Ar), ds = [.lst (rs.map Ar.d)] ∧ rs.length ≤ 1000 ∧ P (rs.map fun r => prD r.pr)
theorem sc__law_ends : FnScope ["_law_arrows", "_law_arrow"] ["_law_arrows"] (defScope s__law_ends) := ⟨rfl, rfl, rfl, by decide +kernel, rfl, by decide +kernel, by decide +kernel⟩
theorem ok__law_ends (F : FnP K "_law_ends" "_law_ends" s__law_ends f fd) (Z : Free mg)  : FnOk T.prog T.w K mg base CX0 1 f fd ["_law_arrows"] (spF T po__law_ends) := by
  have sc := sc__law_ends
  refine okF (T := T) F sc (fun ds P h => ?_) fun cdv A outer s H E hr => ⟨_, (pss_one (ps_ret (pe_lc (own := [("_law_arrow", 1)]) rfl sc.nd (pi_seqK (K := K) rfl (pv 0)) (blkOk_by (N := ["_law_arrows", "_law_arrow"]) (sc := defScope s__law_ends) (by decide +kernel)) (fun _ _ _ _ _ => (pg_name (i := 1) sc.nd rfl (by first | exact Or.inl rfl | exact Or.inr rfl))) (fun _ _ _ _ _ => pts_nil) (fun _ _ _ _ _ => (pe_tup (pa_cons (pe_ix (ix_seqK (K := K) rfl) (pv 1) pe_int (fun _ _ => rfl)) (pa_cons (pe_ix (ix_seqK (K := K) rfl) (pv 1) pe_int (fun _ _ => rfl)) pa_nil))))))), fun ds P h => ?_⟩
  · obtain ⟨rs, rfl, _⟩ := h; rfl
  · obtain ⟨rs, rfl, p0, h⟩ := h
    refine LeftF.mk ?_
    simp (maxSteps := 3000000) [argsOf, and_assoc]
    refine ⟨by omega, fun i acc => acc = (rs.take i).map fun r => prD r.pr, by simp, ?_, ?_⟩
    · rintro i e acc r hr' rfl rfl
      refine ⟨_, .inr rfl, 0, rfl, _, rfl, _, .inr rfl, 1, rfl, _, rfl, ?_⟩
      show _ = _
      rw [take_next hr', List.map_append]
      rfl
    · rintro acc rfl
      rw [List.take_length]
      exact h
def po__law_met : List D → (D → Prop) → Prop := fun ds P => ∃ (g : List Int) (Ss : List (List Int)), ds = [intsT g, .lst (Ss.map intsT)] ∧ (∀ S ∈ Ss, S.length ≤ 5) ∧ P (.bl (fitG g Ss))
theorem sc__law_met : FnScope ["_law_guard_here", "_law_sets_here", "_law_one", "_law_peg"] ["_law_guard_here", "_law_sets_here"] (defScope s__law_met) := ⟨rfl, rfl, rfl, by decide +kernel, rfl, by decide +kernel, by decide +kernel⟩
theorem ok__law_met (F : FnP K "_law_met" "_law_met" s__law_met f fd) (Z : Free mg)  : FnOk T.prog T.w K mg base CX0 1 f fd ["_law_guard_here", "_law_sets_here"] (spD T po__law_met) := by
  have sc := sc__law_met
  refine okD (T := T) F sc (fun ds P h => ?_) fun cdv A outer s H E hr => ⟨_, (pss_cons (ps_for PassesOwn.never rfl (pi_seqK (K := K) rfl (pv 1)) (pg_name (i := 2) sc.nd rfl (by first | exact Or.inl rfl | exact Or.inr rfl)) (pss_one (ps_if (pt_cmpR (o_eqK (K := K) rfl (hu64 hr)) (pe_callB (c_lenK2 (K := K) rfl) (by rfl) Z.len bt_len (pa_cons (pe_lc (own := [("_law_peg", 3)]) rfl sc.nd (pi_seqK (K := K) rfl (pv 2)) (blkOk_by (N := ["_law_guard_here", "_law_sets_here", "_law_one", "_law_peg"]) (sc := defScope s__law_met) (by decide +kernel)) (fun _ _ _ _ _ => (pg_name (i := 3) sc.nd rfl (by first | exact Or.inl rfl | exact Or.inr rfl))) (fun _ _ _ _ _ => (pts_one (pt_cmpR (o_inK (K := K) rfl (hu65 hr)) (pv 3) (pv 0) (by rfl)))) (fun _ _ _ _ _ => (pv 3))) pa_nil)) pe_int (nomark _)) (pss_one (ps_ret pe_bl)) pss_nil)))
        (pss_one (ps_ret pe_bl))), fun ds P h => ?_⟩
  · obtain ⟨g, Ss, rfl, _⟩ := h; rfl
  · obtain ⟨g, Ss, rfl, p0, h⟩ := h
    refine Left.mk ?_
    simp (maxSteps := 3000000) [argsOf, and_assoc]
    refine ⟨fun i ρ => ∃ o2 o3, ρ = [some (.v (intsT g)), some (.v (.lst (Ss.map intsT))), o2, o3] ∧ fitG g (Ss.take i) = true, ⟨_, _, rfl, rfl⟩, ?_, ?_⟩
    · rintro i d ρ S hS rfl ⟨o2, o3, rfl, hf⟩
      have l5 := p0 S (mem_get hS)
      refine ⟨_, rfl, _, .inr rfl, by rw [List.length_map]; omega, fun j acc => acc = ((S.take j).filter fun y => decide (y ∈ g)).map .int, by simp, ?_, ?_⟩
      · rintro j d acc hd rfl
        obtain ⟨y, hy, rfl⟩ := get_intD hd
        refine ⟨_, rfl, _, rfl, _, .inr rfl, by simp, fitA_map (fun i => by simp) g, ?_⟩
        by_cases hb : y ∈ g
        · rw [if_pos (mem_intD.mpr hb)]
          refine ⟨_, rfl, ?_⟩
          show _ = _
          rw [take_next hy, List.filter_append, List.map_append]
          simp [hb]
        · rw [if_neg fun z => hb (mem_intD.mp z)]
          show _ = _
          rw [take_next hy, List.filter_append, List.map_append]
          simp [hb]
      · rintro acc rfl
        rw [List.length_map, List.take_length]
        have key : (S.filter fun y => decide (y ∈ g)) = [] ↔ ¬ (g.any fun y => decide (y ∈ S)) = true := by
          rw [List.filter_eq_nil_iff, List.any_eq_true]
          constructor
          · rintro a ⟨y, h1, h2⟩
            exact a y (of_decide_eq_true h2) (decide_eq_true h1)
          · intro a y hy hz
            exact a ⟨y, of_decide_eq_true hz, decide_eq_true hy⟩
        by_cases he : (g.any fun y => decide (y ∈ S)) = true
        · rw [if_neg fun z => (key.mp (List.map_eq_nil_iff.mp z)) he]
          exact ⟨_, _, rfl, by rw [take_next hS, fitG_snoc, hf, he]; rfl⟩
        · rw [if_pos (List.map_eq_nil_iff.mpr (key.mpr he))]
          have : fitG g Ss = false := by
            rw [Bool.eq_false_iff]
            intro z
            exact he (List.all_eq_true.mp z S (mem_get hS))
          rw [← this]
          exact h
    · rintro ρ ⟨o2, o3, rfl, hf⟩
      rw [List.take_length] at hf
      rw [← hf]
      exact h
def po__law_usable : List D → (D → Prop) → Prop := fun ds P => ∃ (w : List Ar) (Ss : List (List Int)), ds = [.lst (w.map Ar.d), .lst (Ss.map intsT)] ∧ w.length ≤ 1000 ∧ (∀ S ∈ Ss, S.length ≤ 5) ∧ P (.lst ((usable w Ss).map Ar.d))
theorem sc__law_usable : FnScope ["_law_web_here", "_law_sets_here", "_law_arrow"] ["_law_web_here", "_law_sets_here"] (defScope s__law_usable) := ⟨rfl, rfl, rfl, by decide +kernel, rfl, by decide +kernel, by decide +kernel⟩
theorem ok__law_usable (F : FnP K "_law_usable" "_law_usable" s__law_usable f fd) (Z : Free mg) (U__law_met : Use T.prog T.w K mg base "_law_met" 1 ["_law_guard_here", "_law_sets_here"] (spD T po__law_met) f0 fd0) : FnOk T.prog T.w K mg base CX0 2 f fd ["_law_web_here", "_law_sets_here"] (spD T po__law_usable) := by
  have sc := sc__law_usable
  refine okD (T := T) F sc (fun ds P h => ?_) fun cdv A outer s H E hr => ⟨_, (pss_one (ps_ret (pe_lc (own := [("_law_arrow", 2)]) rfl sc.nd (pi_seqK (K := K) rfl (pv 0)) (blkOk_by (N := ["_law_web_here", "_law_sets_here", "_law_arrow"]) (sc := defScope s__law_usable) (by decide +kernel)) (fun _ _ _ _ _ => (pg_name (i := 2) sc.nd rfl (by first | exact Or.inl rfl | exact Or.inr rfl))) (fun _ _ _ _ _ => (pts_one (pt_val (pe_use U__law_met (hr.mono (by decide)) (by rfl) (pa_cons (pe_ix (ix_seqK (K := K) rfl) (pv 2) pe_int (fun _ _ => rfl)) (pa_cons (pv 1) pa_nil)))))) (fun _ _ _ _ _ => (pv 2))))), fun ds P h => ?_⟩
  · obtain ⟨w, Ss, rfl, _⟩ := h; rfl
  · obtain ⟨w, Ss, rfl, p0, p1, h⟩ := h
    refine Left.mk ?_
    simp (maxSteps := 3000000) [argsOf, and_assoc, po__law_met]
    refine ⟨by omega, fun i acc => acc = ((w.take i).filter fun r => fitG r.g Ss).map Ar.d, by simp, ?_, ?_⟩
    · rintro i d acc r hr' rfl rfl
      refine ⟨_, .inr rfl, 2, rfl, _, rfl, r.g, rfl, Ss, rfl, p1, ?_⟩
      by_cases hf : fitG r.g Ss = true
      · rw [if_pos hf]
        show _ = _
        rw [take_next hr', List.filter_append, List.map_append]
        simp [hf]
      · rw [if_neg hf]
        show _ = _
        rw [take_next hr', List.filter_append, List.map_append]
        simp [hf]
    · rintro acc rfl
      rw [List.take_length]
      exact h
def po__law_size : List D → (D → Prop) → Prop := fun ds P => ∃ (Ss : List (List Int)), ds = [.tup (Ss.map intsT)] ∧ (∀ R ∈ Ss, R.length ≤ 5) ∧ Ss.length ≤ 40 ∧ P (.int (prod Ss))
theorem sc__law_size : FnScope ["_law_sets_here", "_law_many", "_law_one"] ["_law_sets_here"] (defScope s__law_size) := ⟨rfl, rfl, rfl, by decide +kernel, rfl, by decide +kernel, by decide +kernel⟩
theorem ok__law_size (F : FnP K "_law_size" "_law_size" s__law_size f fd) (Z : Free mg)  : FnOk T.prog T.w K mg base CX0 1 f fd ["_law_sets_here"] (spD T po__law_size) := by
  have sc := sc__law_size
  refine okD (T := T) F sc (fun ds P h => ?_) fun cdv A outer s H E hr => ⟨_, (pss_cons (ps_set (i := 1) sc.nd rfl (by first | exact Or.inl rfl | exact Or.inr rfl) pe_int)
        (pss_cons (ps_for PassesOwn.never rfl (pi_seqK (K := K) rfl (pv 0)) (pg_name (i := 2) sc.nd rfl (by first | exact Or.inl rfl | exact Or.inr rfl)) (pss_one (ps_set (i := 1) sc.nd rfl (by first | exact Or.inl rfl | exact Or.inr rfl) (pe_op o_mul (pv 1) (pe_callB (c_lenK2 (K := K) rfl) (by rfl) Z.len bt_len (pa_cons (pv 2) pa_nil))))))
        (pss_one (ps_ret (pv 1))))), fun ds P h => ?_⟩
  · obtain ⟨Ss, rfl, _⟩ := h; rfl
  · obtain ⟨Ss, rfl, p0, p1, h⟩ := h
    refine Left.mk ?_
    simp (maxSteps := 3000000) [argsOf, and_assoc]
    refine ⟨fun i ρ => ∃ o, ρ = [some (.v (.tup (Ss.map intsT))), some (.v (.int (prod (Ss.take i)))), o], ⟨_, rfl⟩, ?_, ?_⟩
    · rintro i e ρ R hR rfl ⟨o, rfl⟩
      refine ⟨_, rfl, _, rfl, R.map .int, .inr rfl, _, rfl, (by have := p0 R (mem_get hR); rw [List.length_map]; exact .inr ⟨by omega, by omega⟩), some (.v (intsT R)), ?_⟩
      rw [take_next hR, prod_snoc, List.length_map]
      rfl
    · rintro ρ ⟨o, rfl⟩
      refine ⟨_, rfl, ?_⟩
      rw [List.take_length]
      exact h
end
end
end DL
/-! M10: the law's own sets -/
namespace DL
open PySem L2 PyProof.Rows
noncomputable section
/-- webs whose marks need not stand once -/
structure WOk2 (k : Int) (w : List Ar) : Prop where
  ok : ∀ r ∈ w, ArOk k r
  few : w.length ≤ 600
def WsOk2 (k : Int) (ws : List (List Ar)) : Prop := ∀ w ∈ ws, WOk2 k w
theorem WsOk.two {k : Int} {ws : List (List Ar)} (h : WsOk k ws) : WsOk2 k ws := fun w hw => ⟨(h w hw).ok, Nat.le_trans (h w hw).few (by decide)⟩
def Clsd (ps : Prs) (F : List Int) : Prop := ∀ a b, (a, b) ∈ ps → a ∈ F → b ∈ F
structure RI (k : Int) (ps : Prs) (x : Int) (F : List Int) : Prop where
  nd : F.Nodup
  mem : ∀ y ∈ F, LeadP ps x y
  x0 : x ∈ F
  rg : ∀ y ∈ F, 0 ≤ y ∧ y < k
theorem RI.few {k : Int} (hk : 0 ≤ k) {ps : Prs} {x : Int} {F : List Int} (h : RI k ps x F) : F.length ≤ k.toNat := by
  have := nodup_le (l2 := (List.range k.toNat).map fun (n : Nat) => (n : Int)) h.nd fun y hy => by
    have := h.rg y hy
    exact List.mem_map.mpr ⟨y.toNat, List.mem_range.mpr (by omega), by omega⟩
  simpa using this
theorem RI.add {k : Int} {ps : Prs} {x a b : Int} {F : List Int} (h : RI k ps x F) (hp : (a, b) ∈ ps) (ha : a ∈ F) (hb : b ∉ F) (rb : 0 ≤ b ∧ b < k) : RI k ps x (F ++ [b]) := by
  refine ⟨List.nodup_append.mpr ⟨h.nd, by simp, fun c hc d hd e => hb ?_⟩, fun y hy => ?_, List.mem_append_left _ h.x0, fun y hy => ?_⟩
  · rw [← List.mem_singleton.mp hd, ← e]; exact hc
  · rcases List.mem_append.mp hy with hy | hy
    · exact h.mem y hy
    · rw [List.mem_singleton.mp hy]; exact (h.mem a ha).tail hp
  · rcases List.mem_append.mp hy with hy | hy
    · exact h.rg y hy
    · rw [List.mem_singleton.mp hy]; exact rb
theorem RI.fin {k : Int} {ps : Prs} {x : Int} {F : List Int} (h : RI k ps x F) (c : Clsd ps F) (y : Int) : y ∈ F ↔ LeadP ps x y :=
  ⟨h.mem y, fun q => q.inv (C := fun z => z ∈ F) h.x0 fun a b ha r => c a b r ha⟩
/-- within a round -/
def InR (ps : Prs) (i j : Nat) (F G : List Int) : Prop := Clsd ps G ∨ (G = F ∧ i + 1 ≤ F.length ∧ ∀ a b, (a, b) ∈ ps.take j → a ∈ G → b ∈ G) ∨ i + 2 ≤ G.length
theorem InR.keep {ps : Prs} {i j : Nat} {F G : List Int} {a b : Int} (h : InR ps i j F G) (hp : ps[j]? = some (a, b)) (hk : a ∈ G → b ∈ G) : InR ps i (j + 1) F G := by
  rcases h with h | ⟨h1, h2, h3⟩ | h
  · exact .inl h
  · refine .inr (.inl ⟨h1, h2, fun c d hc => ?_⟩)
    rw [take_next hp] at hc
    rcases List.mem_append.mp hc with hc | hc
    · exact h3 c d hc
    · have := List.mem_singleton.mp hc
      cases this
      exact hk
  · exact .inr (.inr h)
theorem InR.add {ps : Prs} {i j : Nat} {F G : List Int} {a b : Int} (h : InR ps i j F G) (hp : ps[j]? = some (a, b)) (ha : a ∈ G) (hb : b ∉ G) : InR ps i (j + 1) F (G ++ [b]) := by
  rcases h with h | ⟨h1, h2, h3⟩ | h
  · exact absurd (h a b (mem_get hp) ha) hb
  · exact .inr (.inr (by rw [h1, List.length_append, List.length_singleton]; omega))
  · exact .inr (.inr (by rw [List.length_append]; omega))
theorem pd_get {α β : Type} {R : α → β → Prop} : ∀ {a : List α} {b : List β} {i : Nat} {x : α}, Paired R a b → a[i]? = some x → ∃ y, b[i]? = some y ∧ R x y
  | _, _, _, _, .nil, h => by simp at h
  | _, _, 0, _, .cons q t, h => ⟨_, rfl, by simp at h; exact h ▸ q⟩
  | _, _, i + 1, _, .cons q t, h => by
    obtain ⟨y, h1, h2⟩ := pd_get (i := i) t (by simpa using h)
    exact ⟨y, by simpa using h1, h2⟩
theorem nm_perm {k : Int} {n m : List Int} (h : NmOk k n) (p : m.Perm n) : NmOk k m := ⟨fun x hx => h.rg x (p.mem_iff.mp hx), p.nodup_iff.mpr h.nd, by rw [p.length_eq]; exact h.len⟩
theorem nm_start {k : Int} (hk : 0 ≤ k) : NmOk k ((List.range k.toNat).map fun (n : Nat) => (n : Int)) := by
  refine ⟨fun x hx => ?_, ?_, by simp; omega⟩
  · obtain ⟨n, hn, rfl⟩ := List.mem_map.mp hx
    have := List.mem_range.mp hn
    omega
  · exact map_nodup List.nodup_range fun a _ b _ e => by omega
end
end DL
namespace DL
open PySem L2 PyProof.Rows
noncomputable section
section
variable {T : Tx} {K : PySem.W.Frag} {mg : Str → Option Value} {base : Heap} {f f0 f1 f2 f3 f4 f5 f6 f7 : Addr} {fd fd0 fd1 fd2 fd3 fd4 fd5 fd6 fd7 : FuncData} [ci : CI T K] [n1 : NoF "turned"] [n2 : NoF "renamed"] [n3 : NoF "guards"]
def po__law_reached : List D → (D → Prop) → Prop := fun ds P => ∃ (ps : Prs) (x k : Int), ds = [.lst (ps.map prD), .int x, .int k] ∧ (3 ≤ k ∧ k ≤ 5) ∧ ps.length ≤ 1000 ∧ (0 ≤ x ∧ x < k) ∧ (∀ q ∈ ps, 0 ≤ q.2 ∧ q.2 < k) ∧ (∀ F : List Int, F.Pairwise (· < ·) → (∀ y, y ∈ F ↔ LeadP ps x y) → P (intsL F))
theorem sc__law_reached : FnScope ["_law_pairs_here", "_law_start", "_law_pegs", "_law_found", "_law_turn", "_law_pair"] ["_law_pairs_here", "_law_start", "_law_pegs"] (defScope s__law_reached) := ⟨rfl, rfl, rfl, by decide +kernel, rfl, by decide +kernel, by decide +kernel⟩
theorem ok__law_reached (F : FnP K "_law_reached" "_law_reached" s__law_reached f fd) (Z : Free mg)  : FnOk T.prog T.w K mg base CX0 1 f fd ["_law_pairs_here", "_law_start", "_law_pegs"] (spD T po__law_reached) := by
  have sc := sc__law_reached
  refine okD (T := T) F sc (fun ds P h => ?_) fun cdv A outer s H E hr => ⟨_, (pss_cons (ps_own (ps_set (i := 3) sc.nd rfl (by first | exact Or.inl rfl | exact Or.inr rfl) (pe_lst (pa_cons (pv 1) pa_nil))))
        (pss_cons (ps_for PassesOwn.never rfl (pi_range1 (by rfl) Z.range (pa_cons (pv 2) pa_nil)) (pg_name (i := 4) sc.nd rfl (by first | exact Or.inl rfl | exact Or.inr rfl)) (pss_one (ps_for PassesOwn.never rfl (pi_seqK (K := K) rfl (pv 0)) (pg_name (i := 5) sc.nd rfl (by first | exact Or.inl rfl | exact Or.inr rfl)) (pss_one (ps_if (pt_bor 3 (PW.pt (pw_and (pt_cmpR (o_inK (K := K) rfl (hu65 hr)) (pe_ix (ix_seqK (K := K) rfl) (pv 5) pe_int (fun _ _ => rfl)) (pv 3) (by rfl)) (pw_and1 (pt_cmpR (o_notInK (K := K) rfl (hu65 hr)) (pe_ix (ix_seqK (K := K) rfl) (pv 5) pe_int (fun _ _ => rfl)) (pv 3) (by rfl)))))) (pss_one (ps_expr (pe_bm PySem.F.plainAttrs_list PySem.F.slot_list_append PySem.F.type_list_append mt_append (pv 3) (pa_cons (pe_ix (ix_seqK (K := K) rfl) (pv 5) pe_int (fun _ _ => rfl)) pa_nil)))) pss_nil)))))
        (pss_one (ps_frz 3 (ps_ret (pe_callB (c_sort2 (T := T) (K := K) rfl ⟨rfl, rfl⟩ rfl (hu65 hr)) (by rfl) Z.sorted bt_sorted (pa_cons (pv 3) pa_nil))))))), fun ds P h => ?_⟩
  · obtain ⟨ps, x, k, rfl, _⟩ := h; rfl
  · obtain ⟨ps, x, k, rfl, p0, p1, p2, p3, h⟩ := h
    refine Left.mk ?_
    simp (maxSteps := 3000000) [argsOf, and_assoc]
    refine ⟨by omega, by omega, fun i ρ => ∃ (F : List Int) (o4 o5 : Option Kn), ρ = [some (.v (.lst (ps.map prD))), some (.v (.int x)), some (.v (.int k)), some (.o (F.map .int)), o4, o5] ∧ RI k ps x F ∧ (Clsd ps F ∨ i + 1 ≤ F.length), ⟨[x], _, _, rfl, ⟨by simp, fun y hy => by rw [List.mem_singleton.mp hy]; exact .refl, by simp, fun y hy => by rw [List.mem_singleton.mp hy]; exact p2⟩, .inr (by simp)⟩, ?_, ?_⟩
    · rintro i d ρ hd ⟨F, o4, o5, rfl, hF, hc⟩
      refine ⟨_, rfl, _, .inl rfl, fun j ρ => ∃ (G : List Int) (o4 o5 : Option Kn), ρ = [some (.v (.lst (ps.map prD))), some (.v (.int x)), some (.v (.int k)), some (.o (G.map .int)), o4, o5] ∧ RI k ps x G ∧ InR ps i j F G, ⟨F, _, _, rfl, hF, hc.imp id fun q => .inl ⟨rfl, q, fun a b h => by simp at h⟩⟩, ?_, ?_⟩
      · rintro j d ρ hd ⟨G, o4, o5, rfl, hG, hI⟩
        obtain ⟨⟨a, b⟩, hp, rfl⟩ := get_map hd
        have few := hG.few (by omega)
        have rb := p3 _ (mem_get hp)
        refine ⟨_, rfl, _, rfl, _, .inr rfl, 0, rfl, _, rfl, _, rfl, _, .inl rfl, rfl, fitA_map (fun g => by simp) G, ?_⟩
        by_cases ha : a ∈ G
        · rw [if_pos (mem_intD.mpr ha)]
          refine ⟨_, rfl, _, .inr rfl, 1, rfl, _, rfl, _, rfl, _, .inl rfl, rfl, fitA_map (fun g => by simp) G, ?_⟩
          by_cases hb : b ∈ G
          · exact .inl ⟨mem_intD.mpr hb, G, _, _, rfl, hG, hI.keep hp fun _ => hb⟩
          · exact .inr ⟨fun z => hb (mem_intD.mp z), _, rfl, _, rfl, _, .inr rfl, 1, rfl, _, rfl, by rw [List.length_map]; omega, G ++ [b], o4, some (.v (prD (a, b))), by simp, hG.add (mem_get hp) ha hb rb, hI.add hp ha hb⟩
        · rw [if_neg fun z => ha (mem_intD.mp z)]
          exact ⟨G, _, _, rfl, hG, hI.keep hp fun z => absurd z ha⟩
      · rintro ρ ⟨G, o4, o5, rfl, hG, hI⟩
        rw [List.length_map] at hI
        refine ⟨G, _, _, rfl, hG, ?_⟩
        rcases hI with h | ⟨_, _, h⟩ | h
        · exact .inl h
        · rw [List.take_length] at h; exact .inl h
        · exact .inr h
    · rintro ρ ⟨F, o4, o5, rfl, hF, hc⟩
      rw [rangeD_len] at hc
      have few := hF.few (by omega)
      have c : Clsd ps F := hc.elim id fun q => by omega
      refine ⟨_, rfl, _, rfl, _, .inl rfl, sortOk_ints F, fun fs pm pw => ?_⟩
      rw [perm_ints pm pw]
      exact h _ (srt_lt hF.nd) fun y => by rw [(srt_perm _).mem_iff]; exact hF.fin c y
def po__law_tied : List D → (D → Prop) → Prop := fun ds P => ∃ (ps : Prs) (x k : Int), ds = [.lst (ps.map prD), .int x, .int k] ∧ (3 ≤ k ∧ k ≤ 5) ∧ ps.length ≤ 1000 ∧ (0 ≤ x ∧ x < k) ∧ (∀ q ∈ ps, (0 ≤ q.1 ∧ q.1 < k) ∧ (0 ≤ q.2 ∧ q.2 < k)) ∧ (∀ R : List Int, TiedP ps x R → P (intsT R))
theorem sc__law_tied : FnScope ["_law_pairs_here", "_law_peg", "_law_pegs", "_law_ahead", "_law_back", "_law_pair", "_law_one"] ["_law_pairs_here", "_law_peg", "_law_pegs"] (defScope s__law_tied) := ⟨rfl, rfl, rfl, by decide +kernel, rfl, by decide +kernel, by decide +kernel⟩
theorem ok__law_tied (F : FnP K "_law_tied" "_law_tied" s__law_tied f fd) (Z : Free mg) (U__law_reached : Use T.prog T.w K mg base "_law_reached" 1 ["_law_pairs_here", "_law_start", "_law_pegs"] (spD T po__law_reached) f0 fd0) : FnOk T.prog T.w K mg base CX0 2 f fd ["_law_pairs_here", "_law_peg", "_law_pegs"] (spD T po__law_tied) := by
  have sc := sc__law_tied
  refine okD (T := T) F sc (fun ds P h => ?_) fun cdv A outer s H E hr => ⟨_, (pss_cons (ps_set (i := 3) sc.nd rfl (by first | exact Or.inl rfl | exact Or.inr rfl) (pe_use U__law_reached (hr.mono (by decide)) (by rfl) (pa_cons (pv 0) (pa_cons (pv 1) (pa_cons (pv 2) pa_nil)))))
        (pss_cons (ps_set (i := 4) sc.nd rfl (by first | exact Or.inl rfl | exact Or.inr rfl) (pe_use U__law_reached (hr.mono (by decide)) (by rfl) (pa_cons (pe_lc (own := [("_law_pair", 5)]) rfl sc.nd (pi_seqK (K := K) rfl (pv 0)) (blkOk_by (N := ["_law_pairs_here", "_law_peg", "_law_pegs", "_law_ahead", "_law_back", "_law_pair", "_law_one"]) (sc := defScope s__law_tied) (by decide +kernel)) (fun _ _ _ _ _ => (pg_name (i := 5) sc.nd rfl (by first | exact Or.inl rfl | exact Or.inr rfl))) (fun _ _ _ _ _ => pts_nil) (fun _ _ _ _ _ => (pe_tup (pa_cons (pe_ix (ix_seqK (K := K) rfl) (pv 5) pe_int (fun _ _ => rfl)) (pa_cons (pe_ix (ix_seqK (K := K) rfl) (pv 5) pe_int (fun _ _ => rfl)) pa_nil))))) (pa_cons (pv 1) (pa_cons (pv 2) pa_nil)))))
        (pss_one (ps_ret (pe_callTy (c_tuple2 (K := K) rfl) (by rfl) Z.tuple bt_tuple (pa_cons (pe_lc (own := [("_law_one", 6)]) rfl sc.nd (pi_seqK (K := K) rfl (pv 3)) (blkOk_by (N := ["_law_pairs_here", "_law_peg", "_law_pegs", "_law_ahead", "_law_back", "_law_pair", "_law_one"]) (sc := defScope s__law_tied) (by decide +kernel)) (fun _ _ _ _ _ => (pg_name (i := 6) sc.nd rfl (by first | exact Or.inl rfl | exact Or.inr rfl))) (fun _ _ _ _ _ => (pts_one (pt_cmpR (o_inK (K := K) rfl (hu65 hr)) (pv 6) (pv 4) (by rfl)))) (fun _ _ _ _ _ => (pv 6))) pa_nil)))))), fun ds P h => ?_⟩
  · obtain ⟨ps, x, k, rfl, _⟩ := h; rfl
  · obtain ⟨ps, x, k, rfl, p0, p1, p2, p3, h⟩ := h
    refine Left.mk ?_
    simp (maxSteps := 3000000) [argsOf, and_assoc, po__law_reached]
    refine ⟨ps, rfl, p0.1, p0.2, p1, p2.1, p2.2, fun a b hab => (p3 _ hab).2, fun F hF1 hF2 => ⟨by omega, fun i acc => acc = (ps.take i).map fun p => prD (p.2, p.1), by simp, ?_, ?_⟩⟩
    · rintro i e acc a b hp rfl rfl
      refine ⟨_, .inr rfl, 1, rfl, _, rfl, _, .inr rfl, 0, rfl, _, rfl, ?_⟩
      show _ = _
      rw [take_next hp, List.map_append]
      rfl
    · rintro acc rfl
      refine ⟨ps.map fun p => (p.2, p.1), by rw [List.take_length, List.map_map]; rfl, p0.1, p0.2, by simpa using p1, p2.1, p2.2, fun a b hab => ?_, fun B hB1 hB2 => ⟨?_, fun i acc => acc = ((F.take i).filter fun y => decide (y ∈ B)).map .int, by simp, ?_, ?_⟩⟩
      · obtain ⟨⟨c, d⟩, h1, e⟩ := List.mem_map.mp hab
        cases e
        exact (p3 _ h1).1
      · have := nodup_le (l2 := x :: ps.map (·.2)) (lt_nodup hF1) fun y hy => lead_sub ((hF2 y).mp hy)
        simp at this
        omega
      · rintro i e acc y hy rfl rfl
        refine ⟨rfl, ?_⟩
        by_cases hb : y ∈ B
        · rw [if_pos ⟨y, hb, rfl⟩]
          show _ = _
          rw [take_next hy, List.filter_append, List.map_append]
          simp [hb]
        · rw [if_neg fun ⟨z, hz, e⟩ => hb (D.int.inj e ▸ hz)]
          show _ = _
          rw [take_next hy, List.filter_append, List.map_append]
          simp [hb]
      · rintro acc rfl
        rw [List.take_length]
        exact h _ ⟨hF1.filter _, fun y => by rw [List.mem_filter, hF2, decide_eq_true_eq, hB2, lead_flip]⟩
def po__law_sets : List D → (D → Prop) → Prop := fun ds P => ∃ (k : Int) (ws : List (List Ar)) (p : List Int), ds = [.int k, websD ws, intsT p] ∧ (3 ≤ k ∧ k ≤ 5) ∧ WsOk2 k ws ∧ ws.length ≤ 40 ∧ PosOk k ws.length p ∧ (∀ Ss, SetsOk [] ws p Ss → P (.tup (Ss.map intsT)))
theorem sc__law_sets : FnScope ["_law_pegs", "_law_webs_here", "_law_position_here", "_law_sets_here", "_law_disc", "_law_pairs_here"] ["_law_pegs", "_law_webs_here", "_law_position_here"] (defScope s__law_sets) := ⟨rfl, rfl, rfl, by decide +kernel, rfl, by decide +kernel, by decide +kernel⟩
theorem ok__law_sets (F : FnP K "_law_sets" "_law_sets" s__law_sets f fd) (Z : Free mg) (U__law_tied : Use T.prog T.w K mg base "_law_tied" 2 ["_law_pairs_here", "_law_peg", "_law_pegs"] (spD T po__law_tied) f0 fd0) (U__law_ends : Use T.prog T.w K mg base "_law_ends" 1 ["_law_arrows"] (spF T po__law_ends) f1 fd1) (U__law_usable : Use T.prog T.w K mg base "_law_usable" 2 ["_law_web_here", "_law_sets_here"] (spD T po__law_usable) f2 fd2) : FnOk T.prog T.w K mg base CX0 3 f fd ["_law_pegs", "_law_webs_here", "_law_position_here"] (spD T po__law_sets) := by
  have sc := sc__law_sets
  refine okD (T := T) F sc (fun ds P h => ?_) fun cdv A outer s H E hr => ⟨_, (pss_cons (ps_own (ps_set (i := 3) sc.nd rfl (by first | exact Or.inl rfl | exact Or.inr rfl) (pe_lst pa_nil)))
        (pss_cons (ps_for PassesOwn.never rfl (pi_range1 (by rfl) Z.range (pa_cons (pe_callB (c_lenK2 (K := K) rfl) (by rfl) Z.len bt_len (pa_cons (pv 1) pa_nil)) pa_nil)) (pg_name (i := 4) sc.nd rfl (by first | exact Or.inl rfl | exact Or.inr rfl)) (pss_cons (ps_set (i := 5) sc.nd rfl (by first | exact Or.inl rfl | exact Or.inr rfl) (pe_borL 3 (pe_use U__law_ends (hr.mono (by decide)) (by rfl) (pa_cons (pe_use U__law_usable (hr.mono (by decide)) (by rfl) (pa_cons (pe_ix (ix_seqK (K := K) rfl) (pv 1) (pv 4) (fun _ _ => rfl)) (pa_cons (pv 3) pa_nil))) pa_nil))))
        (pss_one (ps_expr (pe_bm PySem.F.plainAttrs_list PySem.F.slot_list_append PySem.F.type_list_append mt_append (pv 3) (pa_cons (pe_use U__law_tied (hr.mono (by decide)) (by rfl) (pa_cons (pv 5) (pa_cons (pe_ix (ix_seqK (K := K) rfl) (pv 2) (pv 4) (fun _ _ => rfl)) (pa_cons (pv 0) pa_nil)))) pa_nil))))))
        (pss_one (ps_frz 3 (ps_ret (pe_callTy (c_tuple2 (K := K) rfl) (by rfl) Z.tuple bt_tuple (pa_cons (pv 3) pa_nil))))))), fun ds P h => ?_⟩
  · obtain ⟨k, ws, p, rfl, _⟩ := h; rfl
  · obtain ⟨k, ws, p, rfl, p0, p1, p2, p3, h⟩ := h
    refine Left.mk ?_
    simp (maxSteps := 3000000) [argsOf, and_assoc, po__law_tied, po__law_ends, po__law_usable]
    refine ⟨by omega, fun i ρ => ∃ (Ss : List (List Int)) (o4 o5 : Option Kn), ρ = [some (.v (.int k)), some (.v (websD ws)), some (.v (intsT p)), some (.o (Ss.map intsT)), o4, o5] ∧ SetsOk [] (ws.take i) (p.take i) Ss ∧ ∀ S ∈ Ss, S.length ≤ 5, ⟨[], _, _, rfl, .nil _, fun S hS => (nomatch hS)⟩, ?_, ?_⟩
    · rintro i d ρ hd ⟨Ss, o4, o5, rfl, hS, h5⟩
      obtain ⟨hi, rfl⟩ := rangeD_some hd
      have pl := p3.len
      obtain ⟨w, hw⟩ : ∃ w, ws[i]? = some w := ⟨ws[i], List.getElem?_eq_getElem hi⟩
      obtain ⟨y, hy⟩ : ∃ y, p[i]? = some y := ⟨p[i], List.getElem?_eq_getElem (by omega)⟩
      have ok := p1 w (mem_get hw)
      have yr := p3.rg y (mem_get hy)
      have few := ok.few
      have ul : (usable w Ss).length ≤ 600 := Nat.le_trans (List.length_filter_le _ _) few
      have sl : Ss.length ≤ 40 := by have := hS.len.1; rw [List.length_take] at this; omega
      refine ⟨_, rfl, _, rfl, _, rfl, _, .inl rfl, i, rfl, _, by rw [List.getElem?_map, hw]; rfl, _, rfl, w, rfl, Ss, rfl, by omega, h5, usable w Ss, rfl, by omega, imA_map (fun r => by simp [prD]) _, _, rfl, _, rfl, _, rfl, _, rfl, _, .inr rfl, i, rfl, _, by rw [List.getElem?_map, hy]; rfl, _, rfl, (usable w Ss).map Ar.pr, by rw [List.map_map]; rfl, y, rfl, k, rfl, p0.1, p0.2, by rw [List.length_map]; omega, yr.1, yr.2, fun a b hab => ?_, fun R hR => ⟨by rw [List.length_map]; omega, Ss ++ [R], some (.v (.int i)), some (.v (.lst ((usable w Ss).map fun r => prD r.pr))), by simp, ?_, fun S hS' => ?_⟩⟩
      · obtain ⟨r, hr', e⟩ := List.mem_map.mp hab
        cases e
        have := ok.ok r (List.mem_filter.mp hr').1
        exact ⟨this.a.1, this.a.2, this.b.1, this.b.2⟩
      · rw [take_next hw, take_next hy]
        exact hS.snoc (by simpa using hR)
      · rcases List.mem_append.mp hS' with hS' | hS'
        · exact h5 S hS'
        · rw [List.mem_singleton.mp hS']
          exact few_ints p0.2 (lt_nodup hR.up) (tied_rg (w := usable w Ss) (fun r hr' => (ok.ok r (List.mem_filter.mp hr').1).b) yr hR)
    · rintro ρ ⟨Ss, o4, o5, rfl, hS, h5⟩
      rw [rangeD_len, List.take_length, ← p3.len, List.take_length] at hS
      exact ⟨_, rfl, _, rfl, _, .inl rfl, h Ss hS⟩
def po__law_within : List D → (D → Prop) → Prop := fun ds P => ∃ (Ss Rs : List (List Int)), ds = [.tup (Ss.map intsT), .tup (Rs.map intsT)] ∧ (∀ S ∈ Ss, S.length ≤ 5) ∧ LeS Ss Rs ∧ Ss.length ≤ 40 ∧ P (.bl true)
theorem sc__law_within : FnScope ["_law_lesser", "_law_greater", "_law_disc", "_law_peg"] ["_law_lesser", "_law_greater"] (defScope s__law_within) := ⟨rfl, rfl, rfl, by decide +kernel, rfl, by decide +kernel, by decide +kernel⟩
theorem ok__law_within (F : FnP K "_law_within" "_law_within" s__law_within f fd) (Z : Free mg)  : FnOk T.prog T.w K mg base CX0 1 f fd ["_law_lesser", "_law_greater"] (spD T po__law_within) := by
  have sc := sc__law_within
  refine okD (T := T) F sc (fun ds P h => ?_) fun cdv A outer s H E hr => ⟨_, (pss_cons (ps_for PassesOwn.never rfl (pi_range1 (by rfl) Z.range (pa_cons (pe_callB (c_lenK2 (K := K) rfl) (by rfl) Z.len bt_len (pa_cons (pv 0) pa_nil)) pa_nil)) (pg_name (i := 2) sc.nd rfl (by first | exact Or.inl rfl | exact Or.inr rfl)) (pss_one (ps_if (pt_cmpR o_gt (pe_callB (c_lenK2 (K := K) rfl) (by rfl) Z.len bt_len (pa_cons (pe_lc (own := [("_law_peg", 3)]) rfl sc.nd (pi_seqK (K := K) rfl (pe_ix (ix_seqK (K := K) rfl) (pv 0) (pv 2) (fun _ _ => rfl))) (blkOk_by (N := ["_law_lesser", "_law_greater", "_law_disc", "_law_peg"]) (sc := defScope s__law_within) (by decide +kernel)) (fun _ _ _ _ _ => (pg_name (i := 3) sc.nd rfl (by first | exact Or.inl rfl | exact Or.inr rfl))) (fun _ _ _ _ _ => (pts_one (pt_cmpR (o_notInK (K := K) rfl (hu65 hr)) (pv 3) (pe_ix (ix_seqK (K := K) rfl) (pv 1) (pv 2) (fun _ _ => rfl)) (by rfl)))) (fun _ _ _ _ _ => (pv 3))) pa_nil)) pe_int (nomark _)) (pss_one (ps_ret pe_bl)) pss_nil)))
        (pss_one (ps_ret pe_bl))), fun ds P h => ?_⟩
  · obtain ⟨Ss, Rs, rfl, _⟩ := h; rfl
  · obtain ⟨Ss, Rs, rfl, p0, p1, p2, h⟩ := h
    refine Left.mk ?_
    simp (maxSteps := 3000000) [argsOf, and_assoc]
    refine ⟨by omega, fun i ρ => ∃ o2 o3, ρ = [some (.v (.tup (Ss.map intsT))), some (.v (.tup (Rs.map intsT))), o2, o3], ⟨_, _, rfl⟩, ?_, fun ρ _ => h⟩
    rintro i d ρ hd ⟨o2, o3, rfl⟩
    obtain ⟨hi, rfl⟩ := rangeD_some hd
    obtain ⟨S, hS⟩ : ∃ S, Ss[i]? = some S := ⟨Ss[i], List.getElem?_eq_getElem hi⟩
    obtain ⟨R, hR, hsub⟩ := pd_get p1 hS
    have l5 := p0 S (mem_get hS)
    refine ⟨_, rfl, _, rfl, _, .inr rfl, i, rfl, _, by rw [List.getElem?_map, hS]; rfl, _, .inr rfl, by rw [List.length_map]; omega, fun j acc => acc = [], rfl, ?_, ?_⟩
    · rintro j d acc hd rfl
      obtain ⟨y, hy, rfl⟩ := get_intD hd
      exact ⟨_, rfl, _, rfl, _, rfl, _, .inr rfl, i, rfl, _, by rw [List.getElem?_map, hR]; rfl, _, .inr rfl, rfl, fitA_map (fun g => by simp) R, .inl ⟨mem_intD.mpr (hsub y (mem_get hy)), rfl⟩⟩
    · rintro acc rfl
      exact ⟨_, _, rfl⟩
def po__law_names : List D → (D → Prop) → Prop := fun ds P => ∃ (k : Int), ds = [.int k] ∧ (3 ≤ k ∧ k ≤ 5) ∧ (∀ n : List Int, NmOk k n → P (intsL n))
theorem sc__law_names : FnScope ["_law_draws_here", "_law_pegs", "_law_names_here", "_law_at", "_law_other", "_law_kept"] ["_law_draws_here", "_law_pegs"] (defScope s__law_names) := ⟨rfl, rfl, rfl, by decide +kernel, rfl, by decide +kernel, by decide +kernel⟩
theorem ok__law_names (F : FnP K "_law_names" "_law_names" s__law_names f fd) (Z : Free mg) (U__law_take : Use T.prog T.w K mg base "_law_take" 1 ["_law_draws_here", "_law_many"] (spR T po__law_take) f0 fd0) : FnOk T.prog T.w K mg base CX0 2 f fd ["_law_draws_here", "_law_pegs"] (spR T po__law_names) := by
  have sc := sc__law_names
  refine okR (T := T) F sc (fun ds P h => ?_) fun cdv A outer s H E hr => ⟨_, (pss_cons (ps_own (ps_set (i := 2) sc.nd rfl (by first | exact Or.inl rfl | exact Or.inr rfl) (pe_listRg rfl (by rfl) Z.list (prg_1 (by rfl) Z.range (pv 1)))))
        (pss_cons (ps_for PassesOwn.never rfl (pi_range1 (by rfl) Z.range (pa_cons (pv 1) pa_nil)) (pg_name (i := 3) sc.nd rfl (by first | exact Or.inl rfl | exact Or.inr rfl)) (pss_consJ (ps_set (i := 4) sc.nd rfl (by first | exact Or.inl rfl | exact Or.inr rfl) (pe_use U__law_take (hr.mono (by decide)) (by rfl) (pa_cons (pv 0) (pa_cons (pv 1) pa_nil))))
        (pss_consJ (ps_set (i := 5) sc.nd rfl (by first | exact Or.inl rfl | exact Or.inr rfl) (pe_bor 2 (pe_ix (ix_seqK (K := K) rfl) (pv 2) (pv 3) (fun _ _ => rfl))))
        (pss_consJ (ps_asg (pe_bor 2 (pe_ix (ix_seqK (K := K) rfl) (pv 2) (pv 4) (fun _ _ => rfl))) (pg_sub (pv 2) (pv 3) set_list))
        (pss_one (ps_asg (pv 5) (pg_sub (pv 2) (pv 4) set_list)))))))
        (pss_one (ps_ret (pvo 2 (pv 2)))))), fun ds P h => ?_⟩
  · obtain ⟨k, rfl, _⟩ := h; rfl
  · obtain ⟨k, rfl, p0, h⟩ := h
    refine Left.mk ?_
    simp (maxSteps := 3000000) [argsOf, and_assoc, po__law_take]
    refine ⟨k.toNat, by omega, by omega, by omega, by omega, fun i ρ => ∃ (r : List Int) (o3 o4 o5 : Option Kn), ρ = [some .dr, some (.v (.int k)), some (.o (r.map .int)), o3, o4, o5] ∧ NmOk k r, ⟨_, _, _, _, by rw [List.map_map]; rfl, nm_start (by omega)⟩, ?_, ?_⟩
    · rintro i d ρ hd ⟨r, o3, o4, o5, rfl, hr'⟩
      obtain ⟨hi, rfl⟩ := rangeD_some hd
      have hl := hr'.len
      have il : i < r.length := by omega
      refine ⟨rfl, fun ρ => ∃ j : Nat, j < r.length ∧ ρ = [some .dr, some (.v (.int k)), some (.o (r.map .int)), some (.v (.int i)), some (.v (.int j)), o5], ⟨_, rfl, k, rfl, by omega, fun z z1 z2 => ⟨z.toNat, by omega, by rw [Int.toNat_of_nonneg z1]; rfl⟩⟩, ?_⟩
      rintro ρ ⟨j, jl, rfl⟩
      refine ⟨fun ρ => ρ = [some .dr, some (.v (.int k)), some (.o (r.map .int)), some (.v (.int i)), some (.v (.int j)), some (.v (.int r[i]))], ⟨_, rfl, _, rfl, _, rfl, _, .inl rfl, i, rfl, _, by rw [List.getElem?_map, List.getElem?_eq_getElem il]; rfl, rfl, rfl⟩, ?_⟩
      rintro ρ rfl
      refine ⟨fun ρ => ρ = [some .dr, some (.v (.int k)), some (.o ((r.set i r[j]).map .int)), some (.v (.int i)), some (.v (.int j)), some (.v (.int r[i]))], ⟨_, rfl, _, rfl, _, rfl, _, .inl rfl, j, rfl, _, by rw [List.getElem?_map, List.getElem?_eq_getElem jl]; rfl, rfl, _, rfl, _, rfl, i, rfl, by rw [List.length_map]; exact il, by rw [List.map_set]; rfl⟩, ?_⟩
      rintro ρ rfl
      exact ⟨_, rfl, _, rfl, _, rfl, j, rfl, by rw [List.length_map, List.length_set]; exact jl, (r.set i r[j]).set j r[i], some (.v (.int i)), some (.v (.int j)), some (.v (.int r[i])), by rw [List.map_set, List.map_set, List.map_set]; rfl, nm_perm hr' (List.set_set_perm il jl)⟩
    · rintro ρ ⟨r, o3, o4, o5, rfl, hr'⟩
      exact ⟨_, rfl, h r hr'⟩
def po__law_many_webs : List D → (D → Prop) → Prop := fun ds P => ∃ (k : Int), ds = [.int k] ∧ (3 ≤ k ∧ k ≤ 5) ∧ (∀ ws : List (List Ar), WsOk k ws → (∀ w ∈ ws, w.length ≤ 50) → ws.length ≤ 40 → P (websD ws))
theorem sc__law_many_webs : FnScope ["_law_draws_here", "_law_pegs", "_law_base", "_law_discs", "_law_turn", "_law_disc"] ["_law_draws_here", "_law_pegs"] (defScope s__law_many_webs) := ⟨rfl, rfl, rfl, by decide +kernel, rfl, by decide +kernel, by decide +kernel⟩
theorem ok__law_many_webs (F : FnP K "_law_many_webs" "_law_many_webs" s__law_many_webs f fd) (Z : Free mg) (U__law_take : Use T.prog T.w K mg base "_law_take" 1 ["_law_draws_here", "_law_many"] (spR T po__law_take) f0 fd0) (U__law_web : Use T.prog T.w K mg base "_law_web" 3 ["_law_draws_here", "_law_pegs", "_law_kind_here"] (spR T po__law_web) f1 fd1) : FnOk T.prog T.w K mg base CX0 4 f fd ["_law_draws_here", "_law_pegs"] (spR T po__law_many_webs) := by
  have sc := sc__law_many_webs
  refine okR (T := T) F sc (fun ds P h => ?_) fun cdv A outer s H E hr => ⟨_, (pss_cons (ps_set (i := 2) sc.nd rfl (by first | exact Or.inl rfl | exact Or.inr rfl) (pe_lc (own := [("_law_turn", 4)]) rfl sc.nd (pi_range1 (by rfl) Z.range (pa_cons pe_int pa_nil)) (blkOk_by (N := ["_law_draws_here", "_law_pegs", "_law_base", "_law_discs", "_law_turn", "_law_disc"]) (sc := defScope s__law_many_webs) (by decide +kernel)) (fun _ _ _ _ _ => (pg_name (i := 4) sc.nd rfl (by first | exact Or.inl rfl | exact Or.inr rfl))) (fun _ _ _ _ _ => pts_nil) (fun _ _ _ _ _ => (pe_use U__law_web (hr.mono (by decide)) (by rfl) (pa_cons (pv 0) (pa_cons (pv 1) (pa_cons pe_str pa_nil)))))))
        (pss_cons (ps_set (i := 3) sc.nd rfl (by first | exact Or.inl rfl | exact Or.inr rfl) (pe_ix (ix_seqK (K := K) rfl) (pe_lst (pa_cons pe_int (pa_cons pe_int (pa_cons pe_int (pa_cons pe_int pa_nil))))) (pe_use U__law_take (hr.mono (by decide)) (by rfl) (pa_cons (pv 0) (pa_cons pe_int pa_nil))) (fun _ _ => rfl)))
        (pss_one (ps_ret (pe_lc (own := [("_law_disc", 5)]) rfl sc.nd (pi_range1 (by rfl) Z.range (pa_cons (pv 3) pa_nil)) (blkOk_by (N := ["_law_draws_here", "_law_pegs", "_law_base", "_law_discs", "_law_turn", "_law_disc"]) (sc := defScope s__law_many_webs) (by decide +kernel)) (fun _ _ _ _ _ => (pg_name (i := 5) sc.nd rfl (by first | exact Or.inl rfl | exact Or.inr rfl))) (fun _ _ _ _ _ => pts_nil) (fun _ _ _ _ _ => (pe_callTy (c_list2 (K := K) rfl) (by rfl) Z.list bt_list (pa_cons (pe_ix (ix_seqK (K := K) rfl) (pv 2) (pe_use U__law_take (hr.mono (by decide)) (by rfl) (pa_cons (pv 0) (pa_cons pe_int pa_nil))) (fun _ _ => rfl)) pa_nil)))))))), fun ds P h => ?_⟩
  · obtain ⟨k, rfl, _⟩ := h; rfl
  · obtain ⟨k, rfl, p0, h⟩ := h
    refine Left.mk ?_
    simp (maxSteps := 3000000) [argsOf, and_assoc, po__law_take, po__law_web]
    refine ⟨by rw [rangeD_len]; decide, fun i acc => ∃ ws : List (List Ar), acc = ws.map (fun w => D.lst (w.map Ar.d)) ∧ (∀ w ∈ ws, WOk k w ∧ w.length ≤ 50) ∧ ws.length = i, ⟨[], rfl, fun w hw => (nomatch hw), rfl⟩, ?_, ?_⟩
    · rintro i d acc hd ⟨ws, rfl, hws, hl⟩
      refine ⟨p0.1, p0.2, fun w hw hw2 => ⟨ws ++ [w], by simp, fun u hu => ?_, by simp [hl]⟩⟩
      rcases List.mem_append.mp hu with hu | hu
      · exact hws u hu
      · rw [List.mem_singleton.mp hu]; exact ⟨hw, hw2⟩
    · rintro acc ⟨bs, rfl, hbs, hbl⟩ z z1 z2
      rw [rangeD_len] at hbl
      have key : ∃ x : Nat, z = x ∧ ∃ j : Int, [D.int 6, D.int 40, D.int 13, D.int 5][x]? = some (.int j) ∧ 0 ≤ j ∧ j ≤ 40 := by
        refine ⟨z.toNat, by omega, ?_⟩
        have : z.toNat = 0 ∨ z.toNat = 1 ∨ z.toNat = 2 ∨ z.toNat = 3 := by omega
        rcases this with e | e | e | e <;> rw [e] <;> exact ⟨_, rfl, by decide, by decide⟩
      obtain ⟨x, rfl, j, hx, j1, j2⟩ := key
      refine ⟨x, rfl, _, hx, j, rfl, by omega, by omega, by rw [rangeD_len]; omega, fun i acc => ∃ ws : List (List Ar), acc = ws.map (fun w => D.lst (w.map Ar.d)) ∧ (∀ w ∈ ws, WOk k w ∧ w.length ≤ 50) ∧ ws.length = i, ⟨[], rfl, fun w hw => (nomatch hw), rfl⟩, ?_, ?_⟩
      · rintro i d acc hd ⟨ws, rfl, hws, hl⟩ y y1 y2
        have hy : y.toNat < bs.length := by omega
        refine ⟨y.toNat, by omega, _, by rw [List.getElem?_map, List.getElem?_eq_getElem hy]; rfl, _, .inl rfl, ws ++ [bs[y.toNat]], by simp, fun u hu => ?_, by simp [hl]⟩
        rcases List.mem_append.mp hu with hu | hu
        · exact hws u hu
        · rw [List.mem_singleton.mp hu]; exact hbs _ (List.getElem_mem hy)
      · rintro acc ⟨ws, rfl, hws, hl⟩
        rw [rangeD_len] at hl
        exact h ws (fun w hw => (hws w hw).1) (fun w hw => (hws w hw).2) (by omega)
end
end
end DL
/-! M11: moves, boxes -/
namespace DL
open PySem L2 PyProof.Rows
noncomputable section
/-- the rows of a box, in order -/
def boxR (Ss : List (List Int)) : List (List Int) := Ss.foldl (fun rs S => rs.flatMap fun r => S.map fun y => r ++ [y]) [[]]
/-- disc m.1 may take the arrow m.2 -/
def opn (ws : List (List Ar)) (p : List Int) (m : Nat × Ar) : Prop := ∃ w, ws[m.1]? = some w ∧ m.2 ∈ w ∧ p[m.1]? = some m.2.a ∧ ∀ j y, j < m.1 → p[j]? = some y → y ∈ m.2.g
def mvD (m : Nat × Ar) : D := .tup [.int m.1, .int m.2.a, .int m.2.b, intsT m.2.g, .int m.2.c]
def boxS (rs : List (List Int)) (S : List Int) : List (List Int) := rs.flatMap fun r => S.map fun y => r ++ [y]
theorem boxR_snoc (a : List (List Int)) (S : List Int) : boxR (a ++ [S]) = boxS (boxR a) S := by
  unfold boxR boxS
  rw [List.foldl_append]
  rfl
theorem boxS_len (S : List Int) : ∀ rs : List (List Int), (boxS rs S).length = rs.length * S.length
  | [] => by simp [boxS]
  | r :: rs => by
    have := boxS_len S rs
    unfold boxS at this ⊢
    rw [List.flatMap_cons, List.length_append, this, List.length_map, List.length_cons, Nat.succ_mul, Nat.add_comm]
theorem boxS_snoc (S : List Int) (rs : List (List Int)) (r : List Int) : boxS (rs ++ [r]) S = boxS rs S ++ S.map fun y => r ++ [y] := by
  unfold boxS
  rw [List.flatMap_append]
  simp
theorem boxR_bound : ∀ (Ss : List (List Int)), (∀ S ∈ Ss, S.length ≤ 5) → ∀ i, i ≤ Ss.length → (boxR (Ss.take i)).length ≤ 5 ^ i ∧ ∀ r ∈ boxR (Ss.take i), r.length = i := fun Ss h i => by
  induction i with
  | zero => intro _; exact ⟨by simp [boxR], fun r hr => by simp [boxR] at hr; rw [hr]; rfl⟩
  | succ i ih =>
    intro hi
    obtain ⟨h1, h2⟩ := ih (by omega)
    have hS : Ss[i]? = some Ss[i] := List.getElem?_eq_getElem (by omega)
    have h5 := h _ (mem_get hS)
    rw [take_next hS, boxR_snoc]
    refine ⟨?_, fun r hr => ?_⟩
    · rw [boxS_len, Nat.pow_succ]
      exact Nat.mul_le_mul h1 h5
    · unfold boxS at hr
      obtain ⟨q, hq, hr⟩ := List.mem_flatMap.mp hr
      obtain ⟨y, _, rfl⟩ := List.mem_map.mp hr
      rw [List.length_append, h2 q hq]
      rfl
theorem pow5 {i : Nat} (h : i ≤ 4) : 5 ^ i ≤ 625 := by
  have : i = 0 ∨ i = 1 ∨ i = 2 ∨ i = 3 ∨ i = 4 := by omega
  rcases this with rfl | rfl | rfl | rfl | rfl <;> decide
end
end DL
/-! M12: the room of a position is the box of its sets -/
namespace DL
open PySem L2 PyProof.Rows
noncomputable section
def Mv (ws : List (List Ar)) (p q : List Int) : Prop := ∃ m : Nat × Ar, opn ws p m ∧ q = p.set m.1 m.2.b
abbrev Rch (ws : List (List Ar)) (p q : List Int) : Prop := Rt (Mv ws) p q
abbrev Inb (q : List Int) (Ss : List (List Int)) : Prop := Paired (fun y S => y ∈ S) q Ss
theorem Mv.len {ws : List (List Ar)} {p q : List Int} (h : Mv ws p q) : q.length = p.length := by
  obtain ⟨m, _, rfl⟩ := h
  rw [List.length_set]
theorem Rch.len {ws : List (List Ar)} {p q : List Int} (h : Rch ws p q) : q.length = p.length :=
  h.inv (C := fun z => z.length = p.length) rfl fun a b ha r => r.len.trans ha
theorem Mv.pos {k : Int} {n : Nat} {ws : List (List Ar)} (hw : WsOk2 k ws) {p q : List Int} (h : Mv ws p q) (hp : PosOk k n p) : PosOk k n q := by
  obtain ⟨m, ⟨w, h1, h2, _, _⟩, rfl⟩ := h
  refine ⟨fun x hx => ?_, by rw [List.length_set]; exact hp.len⟩
  rcases List.mem_or_eq_of_mem_set hx with hx | rfl
  · exact hp.rg x hx
  · exact ((hw w (mem_get h1)).ok m.2 h2).b
theorem Rch.pos {k : Int} {n : Nat} {ws : List (List Ar)} (hw : WsOk2 k ws) {p q : List Int} (h : Rch ws p q) (hp : PosOk k n p) : PosOk k n q :=
  h.inv (C := fun z => PosOk k n z) hp fun a b ha r => r.pos hw ha
/-- more marks, more moves -/
theorem Mv.mono {ws vs : List (List Ar)} (h : Paired Sub ws vs) {p q : List Int} (r : Mv ws p q) : Mv vs p q := by
  obtain ⟨⟨i, m⟩, ⟨w, h1, h2, h3, h4⟩, rfl⟩ := r
  obtain ⟨v, g1, g2⟩ := pd_get h h1
  obtain ⟨s, hs, e⟩ := List.mem_map.mp (g2 m.mark (List.mem_map.mpr ⟨m, h2, rfl⟩))
  simp only [Ar.mark, Prod.mk.injEq] at e
  obtain ⟨e1, e2, e3⟩ := e
  refine ⟨(i, s), ⟨v, g1, hs, ?_, fun j y hj hy => ?_⟩, ?_⟩
  · show p[i]? = some s.a
    rw [e1]; exact h3
  · show y ∈ s.g
    rw [e3]; exact h4 j y hj hy
  · show p.set i m.b = p.set i s.b
    rw [e2]
theorem Rch.mono {ws vs : List (List Ar)} (h : Paired Sub ws vs) {p q : List Int} (r : Rch ws p q) : Rch vs p q := Rt.mono (fun _ _ => Mv.mono h) r
theorem Mv.turn {ws : List (List Ar)} {p q : List Int} (r : Mv ws p q) : Mv (ws.map fun w => w.map Ar.turn) q p := by
  obtain ⟨⟨i, m⟩, ⟨w, h1, h2, h3, h4⟩, rfl⟩ := r
  have hi : i < p.length := (List.getElem?_eq_some_iff.mp h3).1
  refine ⟨(i, m.turn), ⟨w.map Ar.turn, ?_, List.mem_map.mpr ⟨m, h2, rfl⟩, ?_, fun j y hj hy => ?_⟩, ?_⟩
  · show (ws.map fun w => w.map Ar.turn)[i]? = _
    rw [List.getElem?_map, h1]; rfl
  · show (p.set i m.b)[i]? = some m.b
    rw [List.getElem?_set_self hi]
  · have hy : (p.set i m.b)[j]? = some y := hy
    have hj : j < i := hj
    rw [List.getElem?_set_ne (by omega)] at hy
    exact h4 j y hj hy
  · show p = (p.set i m.b).set i m.a
    rw [List.set_set]
    have e := (List.getElem?_eq_some_iff.mp h3).2
    have e : p[i] = m.a := e
    rw [← e, List.set_getElem_self]
theorem turn2 (ws : List (List Ar)) : (ws.map fun w => w.map Ar.turn).map (fun w => w.map Ar.turn) = ws := by
  rw [List.map_map]
  have : ((fun w : List Ar => w.map Ar.turn) ∘ fun w => w.map Ar.turn) = id := by
    funext w
    show (w.map Ar.turn).map Ar.turn = w
    rw [List.map_map]
    have : Ar.turn ∘ Ar.turn = id := rfl
    rw [this, List.map_id]
  rw [this, List.map_id]
theorem rch_turn {ws : List (List Ar)} {p q : List Int} : Rch (ws.map fun w => w.map Ar.turn) p q ↔ Rch ws q p := by
  constructor
  · intro h
    refine Rt.flip (Rt.mono (fun a b r => ?_) h)
    have := r.turn
    rwa [turn2] at this
  · intro h
    exact Rt.flip (Rt.mono (fun a b r => r.turn) h)
/-! one disc more -/
theorem Mv.lift {ws : List (List Ar)} {w : List Ar} {x : Int} {p q : List Int} (hl : p.length = ws.length) (r : Mv ws p q) : Mv (ws ++ [w]) (p ++ [x]) (q ++ [x]) := by
  obtain ⟨⟨i, m⟩, ⟨v, h1, h2, h3, h4⟩, rfl⟩ := r
  have hi : i < p.length := (List.getElem?_eq_some_iff.mp h3).1
  refine ⟨(i, m), ⟨v, ?_, h2, ?_, fun j y hj hy => ?_⟩, ?_⟩
  · show (ws ++ [w])[i]? = _
    rw [List.getElem?_append_left (by omega)]; exact h1
  · show (p ++ [x])[i]? = _
    rw [List.getElem?_append_left hi]; exact h3
  · have hj : j < i := hj
    rw [List.getElem?_append_left (by omega)] at hy
    exact h4 j y hj hy
  · show p.set i m.b ++ [x] = (p ++ [x]).set i m.b
    rw [List.set_append_left _ _ hi]
theorem Rch.lift {ws : List (List Ar)} {w : List Ar} {x : Int} {p q : List Int} (hl : p.length = ws.length) (r : Rch ws p q) : Rch (ws ++ [w]) (p ++ [x]) (q ++ [x]) := by
  induction r with
  | refl => exact .refl
  | tail h r ih => exact ih.tail (r.lift ((Rch.len h).trans hl))
/-- a move of one disc more: below, or on top -/
theorem mv_snoc {ws : List (List Ar)} {w : List Ar} {x : Int} {p s : List Int} (hl : p.length = ws.length) (r : Mv (ws ++ [w]) (p ++ [x]) s) :
    (∃ q, s = q ++ [x] ∧ Mv ws p q) ∨ ∃ m ∈ w, m.a = x ∧ s = p ++ [m.b] ∧ ∀ y ∈ p, y ∈ m.g := by
  obtain ⟨⟨i, m⟩, ⟨v, h1, h2, h3, h4⟩, rfl⟩ := r
  have hi : i < (p ++ [x]).length := (List.getElem?_eq_some_iff.mp h3).1
  rw [List.length_append, List.length_singleton] at hi
  have h1 : (ws ++ [w])[i]? = some v := h1
  have h3 : (p ++ [x])[i]? = some m.a := h3
  by_cases e : i < p.length
  · left
    refine ⟨p.set i m.b, by show (p ++ [x]).set i m.b = _; rw [List.set_append_left _ _ e], (i, m), ⟨v, ?_, h2, ?_, fun j y hj hy => ?_⟩, rfl⟩
    · rw [List.getElem?_append_left (by omega)] at h1; exact h1
    · rw [List.getElem?_append_left e] at h3; exact h3
    · have hj : j < i := hj
      exact h4 j y hj (by rw [List.getElem?_append_left (by omega)]; exact hy)
  · right
    have ei : i = p.length := by omega
    subst ei
    rw [List.getElem?_append_right (Nat.le_refl _), Nat.sub_self] at h3
    rw [hl, List.getElem?_append_right (Nat.le_refl _), Nat.sub_self] at h1
    have e1 : w = v := by simpa using h1
    have e3 : x = m.a := by simpa using h3
    subst e1
    refine ⟨m, h2, e3.symm, ?_, fun y hy => ?_⟩
    · show (p ++ [x]).set p.length m.b = _
      rw [List.set_append_right _ _ (Nat.le_refl _), Nat.sub_self]
      rfl
    · obtain ⟨j, hj, e⟩ := List.mem_iff_getElem.mp hy
      exact h4 j y hj (by rw [List.getElem?_append_left hj, List.getElem?_eq_getElem hj, e])
theorem Rch.low {ws : List (List Ar)} {w : List Ar} {x : Int} {p s : List Int} (hl : p.length = ws.length) (r : Rch (ws ++ [w]) (p ++ [x]) s) : ∃ q y, s = q ++ [y] ∧ Rch ws p q := by
  refine r.inv (C := fun s => ∃ q y, s = q ++ [y] ∧ Rch ws p q) ⟨p, x, rfl, .refl⟩ fun a b ha r => ?_
  obtain ⟨q, y, rfl, h⟩ := ha
  rcases mv_snoc (h.len.trans hl) r with ⟨q', rfl, h'⟩ | ⟨m, _, _, rfl, _⟩
  · exact ⟨q', y, rfl, h.tail h'⟩
  · exact ⟨q, m.b, rfl, h⟩
theorem app1_inj {p q : List Int} {x y : Int} (h : p ++ [x] = q ++ [y]) : p = q ∧ x = y := by
  have := List.append_inj' h rfl
  exact ⟨this.1, by simpa using this.2⟩
/-- the box, the room of one disc more -/
theorem top_lead {ws : List (List Ar)} {w : List Ar} {Ss : List (List Int)} {p : List Int} (hl : p.length = ws.length) (IH : ∀ q, Inb q Ss ↔ Rch ws p q ∧ Rch ws q p) {x : Int} {s t : List Int} (r : Rch (ws ++ [w]) s t) :
    ∀ q y, s = q ++ [y] → Rch (ws ++ [w]) (p ++ [x]) s → Rch (ws ++ [w]) t (p ++ [x]) → ∃ q' y', t = q' ++ [y'] ∧ LeadP ((usable w Ss).map Ar.pr) y y' := by
  induction r with
  | refl => exact fun q y e _ _ => ⟨q, y, e, .refl⟩
  | tail h r ih =>
    intro q y e h1 h2
    obtain ⟨q', y', e', l⟩ := ih q y e h1 (.head r h2)
    subst e'
    have g1 := h1.trans h
    obtain ⟨q1, y1, e1, g2⟩ := Rch.low hl g1
    obtain ⟨rfl, rfl⟩ := app1_inj e1
    have ql : q'.length = ws.length := g2.len.trans hl
    rcases mv_snoc ql r with ⟨q2, rfl, _⟩ | ⟨m, hm, ma, rfl, mg⟩
    · exact ⟨q2, y', rfl, l⟩
    · refine ⟨q', m.b, rfl, l.tail ?_⟩
      obtain ⟨q3, y3, e3, g3⟩ := Rch.low ql (Rt.head r h2)
      obtain ⟨rfl, rfl⟩ := app1_inj e3
      have ib := (IH q').mpr ⟨g2, g3⟩
      refine List.mem_map.mpr ⟨m, List.mem_filter.mpr ⟨hm, ?_⟩, by rw [← ma]; rfl⟩
      clear IH g2 g3 ql r e1 e3 g1 h2 h1 l ih h
      unfold fitG
      rw [List.all_eq_true]
      intro S hS
      have : ∀ {q : List Int} {Ss : List (List Int)}, Inb q Ss → S ∈ Ss → ∃ z ∈ q, z ∈ S := fun {q Ss} ib hS => by
        induction ib with
        | nil => exact nomatch hS
        | cons a t iht =>
          rcases List.mem_cons.mp hS with rfl | hS
          · exact ⟨_, List.mem_cons_self, a⟩
          · obtain ⟨z, z1, z2⟩ := iht hS
            exact ⟨z, List.mem_cons_of_mem _ z1, z2⟩
      obtain ⟨z, z1, z2⟩ := this ib hS
      exact List.any_eq_true.mpr ⟨z, mg z z1, decide_eq_true z2⟩
theorem fit_ex {g : List Int} : ∀ {Ss : List (List Int)}, fitG g Ss = true → ∃ z, Inb z Ss ∧ ∀ y ∈ z, y ∈ g
  | [], _ => ⟨[], .nil, fun y hy => nomatch hy⟩
  | S :: Ss, h => by
    unfold fitG at h
    rw [List.all_cons, Bool.and_eq_true] at h
    obtain ⟨y, h1, h2⟩ := List.any_eq_true.mp h.1
    obtain ⟨z, h3, h4⟩ := fit_ex (Ss := Ss) h.2
    refine ⟨y :: z, .cons (of_decide_eq_true h2) h3, fun x hx => ?_⟩
    rcases List.mem_cons.mp hx with rfl | hx
    · exact h1
    · exact h4 x hx
theorem lead_rch {ws : List (List Ar)} {w : List Ar} {Ss : List (List Int)} {p : List Int} (hl : p.length = ws.length) (IH : ∀ q, Inb q Ss ↔ Rch ws p q ∧ Rch ws q p) {q : List Int} (hq : Inb q Ss) {x y : Int} (l : LeadP ((usable w Ss).map Ar.pr) x y) : Rch (ws ++ [w]) (q ++ [x]) (q ++ [y]) := by
  induction l with
  | refl => exact .refl
  | @tail a b _ r ih =>
    obtain ⟨m, hm, e⟩ := List.mem_map.mp r
    obtain ⟨hm, hf⟩ := List.mem_filter.mp hm
    cases e
    obtain ⟨z, z1, z2⟩ := fit_ex hf
    obtain ⟨q1, q2⟩ := (IH q).mp hq
    obtain ⟨z3, z4⟩ := (IH z).mp z1
    have ql : q.length = ws.length := q1.len.trans hl
    have zl : z.length = ws.length := z3.len.trans hl
    have to : Rch ws q z := q2.trans z3
    have fro : Rch ws z q := z4.trans q1
    refine (ih.trans (to.lift ql)).trans (Rt.head (y := z ++ [m.b]) ?_ (fro.lift zl))
    refine ⟨(ws.length, m), ⟨w, ?_, hm, ?_, fun j y hj hy => ?_⟩, ?_⟩
    · show (ws ++ [w])[ws.length]? = _
      simp
    · show (z ++ [m.a])[ws.length]? = _
      rw [← zl]; simp
    · have hj : j < ws.length := hj
      rw [List.getElem?_append_left (by omega)] at hy
      exact z2 y (mem_get hy)
    · show z ++ [m.b] = (z ++ [m.a]).set ws.length m.b
      rw [← zl, List.set_append_right _ _ (Nat.le_refl _), Nat.sub_self]
      rfl
theorem pd_snoc_inv {α β : Type} {R : α → β → Prop} {x : α} {y : β} : ∀ {a : List α} {b : List β}, Paired R (a ++ [x]) (b ++ [y]) → Paired R a b ∧ R x y
  | [], [], .cons q .nil => ⟨.nil, q⟩
  | [], _ :: [], .cons _ t => nomatch t
  | [], _ :: _ :: _, .cons _ t => nomatch t
  | _ :: [], [], .cons _ t => nomatch t
  | _ :: _ :: _, [], .cons _ t => nomatch t
  | _ :: _, _ :: _, .cons q t => by
    obtain ⟨h1, h2⟩ := pd_snoc_inv t
    exact ⟨.cons q h1, h2⟩
theorem room_box : ∀ (n : Nat) (ws : List (List Ar)) (p : List Int) (Ss : List (List Int)), ws.length = n → SetsOk [] ws p Ss → ∀ q, Inb q Ss ↔ Rch ws p q ∧ Rch ws q p := fun n => by
  induction n with
  | zero =>
    intro ws p Ss hn s q
    have e := List.eq_nil_of_length_eq_zero hn
    subst e
    cases s
    constructor
    · intro h; cases h; exact ⟨.refl, .refl⟩
    · rintro ⟨h, _⟩
      have := h.len
      rw [List.eq_nil_of_length_eq_zero this]
      exact .nil
  | succ n ih =>
    intro ws p Ss hn s q
    obtain ⟨l1, l2⟩ := s.len
    rcases List.eq_nil_or_concat ws with rfl | ⟨ws', w, rfl⟩
    · simp at hn
    rw [List.concat_eq_append] at *
    rcases List.eq_nil_or_concat p with rfl | ⟨p', x, rfl⟩
    · rw [hn] at l2; simp at l2
    rw [List.concat_eq_append] at *
    have wl : ws'.length = n := by simpa using hn
    have pl : p'.length = ws'.length := by simpa using l2
    obtain ⟨R, hR⟩ := SetsOk.ex ws' [] p' pl
    obtain ⟨S, hS⟩ := tied_ex ((usable w ([] ++ R)).map Ar.pr) x
    have e := s.uniq (hR.snoc hS)
    subst e
    rw [List.nil_append] at hS
    have IH := ih ws' p' R wl hR
    have ip : Inb p' R := (IH p').mpr ⟨.refl, .refl⟩
    constructor
    · intro h
      have hl : q.length = R.length + 1 := by rw [Paired.length h]; simp
      rcases List.eq_nil_or_concat q with rfl | ⟨q', y, rfl⟩
      · simp at hl
      rw [List.concat_eq_append] at *
      obtain ⟨h1, h2⟩ := pd_snoc_inv h
      obtain ⟨g1, g2⟩ := (IH q').mp h1
      obtain ⟨t1, t2⟩ := (hS.mem y).mp h2
      exact ⟨(g1.lift pl).trans (lead_rch pl IH h1 t1), (lead_rch pl IH h1 t2).trans (g2.lift (g1.len.trans pl))⟩
    · rintro ⟨h1, h2⟩
      obtain ⟨q', y, rfl, g1⟩ := h1.low pl
      obtain ⟨p1, x1, e1, g2⟩ := h2.low (g1.len.trans pl)
      obtain ⟨rfl, rfl⟩ := app1_inj e1
      have ib := (IH q').mpr ⟨g1, g2⟩
      obtain ⟨a1, b1, e1, k1⟩ := top_lead pl IH (x := x) h1 p' x rfl .refl h2
      obtain ⟨rfl, rfl⟩ := app1_inj e1
      obtain ⟨a2, b2, e2, k2⟩ := top_lead pl IH (x := x) h2 q' y rfl h1 .refl
      obtain ⟨rfl, rfl⟩ := app1_inj e2
      exact pd_snoc ib ((hS.mem y).mpr ⟨k1, k2⟩)
/-! rows of the box -/
theorem mem_boxR {q : List Int} : ∀ {Ss : List (List Int)}, q ∈ boxR Ss ↔ Inb q Ss := fun {Ss} => by
  suffices ∀ (n : Nat) (Ss : List (List Int)) q, Ss.length = n → (q ∈ boxR Ss ↔ Inb q Ss) from this _ Ss q rfl
  intro n
  induction n with
  | zero =>
    intro Ss q hn
    have e := List.eq_nil_of_length_eq_zero hn
    subst e
    constructor
    · intro h
      have : q = [] := by simpa [boxR] using h
      rw [this]; exact .nil
    · intro h; cases h; simp [boxR]
  | succ n ih =>
    intro Ss q hn
    rcases List.eq_nil_or_concat Ss with rfl | ⟨Ss', S, rfl⟩
    · simp at hn
    rw [List.concat_eq_append] at *
    have ih := fun q => ih Ss' q (by simpa using hn)
    rw [boxR_snoc]
    unfold boxS
    rw [List.mem_flatMap]
    constructor
    · rintro ⟨r, h1, h2⟩
      obtain ⟨y, hy, rfl⟩ := List.mem_map.mp h2
      exact pd_snoc ((ih r).mp h1) hy
    · intro h
      have hl : q.length = Ss'.length + 1 := by rw [Paired.length h]; simp
      rcases List.eq_nil_or_concat q with rfl | ⟨q', y, rfl⟩
      · simp at hl
      rw [List.concat_eq_append] at *
      obtain ⟨h1, h2⟩ := pd_snoc_inv h
      exact ⟨q', (ih q').mpr h1, List.mem_map.mpr ⟨y, h2, rfl⟩⟩
theorem lt_snoc {x y : Int} : ∀ {r s : List Int}, r.length = s.length → (r ++ [x] < s ++ [y] ↔ r < s ∨ r = s ∧ x < y)
  | [], [], _ => by simp [List.cons_lt_cons_iff]
  | a :: r, b :: s, h => by
    have := lt_snoc (x := x) (y := y) (r := r) (s := s) (by simpa using h)
    rw [List.cons_append, List.cons_append, List.cons_lt_cons_iff, List.cons_lt_cons_iff, this]
    simp only [List.cons.injEq]
    constructor
    · rintro (h | ⟨h1, h2 | ⟨h3, h4⟩⟩)
      · exact .inl (.inl h)
      · exact .inl (.inr ⟨h1, h2⟩)
      · exact .inr ⟨⟨h1, h3⟩, h4⟩
    · rintro ((h | ⟨h1, h2⟩) | ⟨⟨h1, h3⟩, h4⟩)
      · exact .inl h
      · exact .inr ⟨h1, .inl h2⟩
      · exact .inr ⟨h1, .inr ⟨h3, h4⟩⟩
theorem boxR_up : ∀ (n : Nat) (Ss : List (List Int)), Ss.length = n → (∀ S ∈ Ss, S.Pairwise (· < ·)) → (boxR Ss).Pairwise (· < ·) ∧ ∀ r ∈ boxR Ss, r.length = n := fun n => by
  induction n with
  | zero =>
    intro Ss hn _
    have e := List.eq_nil_of_length_eq_zero hn
    subst e
    exact ⟨by simp [boxR], fun r hr => by simp [boxR] at hr; rw [hr]; rfl⟩
  | succ n ih =>
    intro Ss hn hS
    rcases List.eq_nil_or_concat Ss with rfl | ⟨Ss', S, rfl⟩
    · simp at hn
    rw [List.concat_eq_append] at *
    obtain ⟨h1, h2⟩ := ih Ss' (by simpa using hn) fun R hR => hS R (List.mem_append_left _ hR)
    have hs := hS S (by simp)
    rw [boxR_snoc]
    unfold boxS
    refine ⟨?_, fun r hr => ?_⟩
    · rw [List.pairwise_flatMap]
      refine ⟨fun r hr => ?_, ?_⟩
      · rw [List.pairwise_map]
        exact hs.imp fun h => (lt_snoc rfl).mpr (.inr ⟨rfl, h⟩)
      · refine h1.imp_of_mem fun {r s} hr hs h => ?_
        intro x hx y hy
        obtain ⟨a, _, rfl⟩ := List.mem_map.mp hx
        obtain ⟨b, _, rfl⟩ := List.mem_map.mp hy
        exact (lt_snoc ((h2 r hr).trans (h2 s hs).symm)).mpr (.inl h)
    · obtain ⟨q, hq, hr⟩ := List.mem_flatMap.mp hr
      obtain ⟨y, _, rfl⟩ := List.mem_map.mp hr
      rw [List.length_append, h2 q hq]
      rfl
/-! sorted, tuples of ints -/
theorem leD_tup {a b : List Int} : leD (intsT a) (intsT b) ↔ ¬ b < a := by
  unfold leD
  simp only [D.py, pyA_ints]
  rw [PySem.W.dataLt_tuple]
  have := PySem.W.dataLt_ints b a
  unfold PySem.W.rowLt at this
  rw [this]
  simp
theorem perm_tups {fs : List D} {L M : List (List Int)} (h : fs.Perm (L.map intsT)) (p : fs.Pairwise leD) (hM : M.Pairwise (· < ·)) (hn : L.Nodup) (hm : ∀ q, q ∈ L ↔ q ∈ M) : fs = M.map intsT := by
  obtain ⟨N, pm, e⟩ := perm_map_inv h L rfl
  subst e
  have up : N.Pairwise fun a b => ¬ b < a := (List.pairwise_map.mp p).imp fun h => leD_tup.mp h
  have up2 : M.Pairwise fun a b => ¬ b < a := hM.imp fun h => List.lt_asymm h
  have nm : M.Nodup := hM.imp fun {a b} h e => by
    subst e
    exact List.lt_irrefl _ h
  have pm2 : N.Perm M := pm.trans ((List.perm_ext_iff_of_nodup hn nm).mpr hm)
  rw [pm2.eq_of_pairwise (le := fun a b : List Int => ¬ b < a) (fun a b _ _ h1 h2 => List.le_antisymm h1 h2) up up2]
/-! how many -/
def cube (k : Int) (n : Nat) : List (List Int) := boxR (List.replicate n ((List.range k.toNat).map fun (i : Nat) => (i : Int)))
theorem cube_len (k : Int) : ∀ n, (cube k n).length = k.toNat ^ n
  | 0 => by simp [cube, boxR]
  | n + 1 => by
    have := cube_len k n
    unfold cube at this ⊢
    rw [List.replicate_succ', boxR_snoc, boxS_len, this]
    simp [Nat.pow_succ]
theorem mem_cube {k : Int} {n : Nat} {p : List Int} (h : PosOk k n p) : p ∈ cube k n := by
  unfold cube
  rw [mem_boxR]
  obtain ⟨h1, h2⟩ := h
  subst h2
  induction p with
  | nil => exact .nil
  | cons x p ih =>
    rw [List.length_cons, List.replicate_succ]
    have := h1 x List.mem_cons_self
    exact .cons (List.mem_map.mpr ⟨x.toNat, List.mem_range.mpr (by omega), by omega⟩) (ih fun y hy => h1 y (List.mem_cons_of_mem _ hy))
theorem cube_few {k : Int} {n : Nat} {L : List (List Int)} (hn : L.Nodup) (h : ∀ p ∈ L, PosOk k n p) : L.length ≤ k.toNat ^ n := by
  rw [← cube_len]
  exact nodup_le hn fun p hp => mem_cube (h p hp)
theorem in_box {q : List Int} : ∀ {Ss : List (List Int)}, Inb q Ss → inBox q Ss = true := fun {Ss} h => by
  induction h with
  | nil => rfl
  | cons a t ih =>
    unfold inBox at ih ⊢
    rw [List.zip_cons_cons, List.all_cons, ih, decide_eq_true a]
    rfl
end
end DL
/-! M13: the search of the law's own -/
namespace DL
open PySem L2 PyProof.Rows
noncomputable section
theorem hu1 {A : Around} {k : Nat} (hr : Room k A) : A.units + 1 < cLine := by have := hr.units; omega
section
variable {X : Cx} {K : PySem.W.Frag}
theorem c_minL2 (h : X.K = K) (hc : X.calm = true) : CallR X (.builtin "min") (rMinL K) := by subst h; exact c_minL hc
theorem c_lenS2 (h : X.K = K) : CallR X (.builtin "len") (rLenS K) := by subst h; exact c_lenS
theorem ix_scr2 (h : X.K = K) : IxR X (rIxSc K) := by subst h; exact ix_scr
end
/-- B: found; W: waiting; X: what is still to be looked at -/
structure Srch (ws : List (List Ar)) (p : List Int) (B W : List (List Int)) (X : List Int → List Int → Prop) : Prop where
  nd : B.Nodup
  rb : ∀ q ∈ B, Rch ws p q
  rh : ∀ q ∈ W, Rch ws p q
  st : p ∈ B ∨ p ∈ W
  cl : ∀ a ∈ B, ∀ b, Mv ws a b → b ∈ B ∨ b ∈ W ∨ X a b
abbrev NoX (_ _ : List Int) : Prop := False
section
variable {ws : List (List Ar)} {p q : List Int} {B W : List (List Int)} {X X' : List Int → List Int → Prop}
theorem Srch.start : Srch ws p [] [p] NoX := ⟨.nil, fun q h => (nomatch h), fun q h => by rw [List.mem_singleton.mp h]; exact .refl, .inr (by simp), fun a h => (nomatch h)⟩
theorem Srch.skip (h : Srch ws p B (q :: W) X) (hq : q ∈ B) : Srch ws p B W X :=
  ⟨h.nd, h.rb, fun z hz => h.rh z (List.mem_cons_of_mem _ hz), h.st.imp id (fun z => z) |>.elim .inl fun z => (List.mem_cons.mp z).elim (fun e => .inl (e ▸ hq)) .inr, fun a ha b r => (h.cl a ha b r).elim .inl fun z => z.elim (fun z => (List.mem_cons.mp z).elim (fun e => .inl (e ▸ hq)) fun z => .inr (.inl z)) fun z => .inr (.inr z)⟩
theorem Srch.new (h : Srch ws p B (q :: W) NoX) (hq : q ∉ B) (hX : ∀ b, Mv ws q b → X q b) : Srch ws p (B ++ [q]) W X := by
  refine ⟨?_, fun z hz => ?_, fun z hz => h.rh z (List.mem_cons_of_mem _ hz), ?_, fun a ha b r => ?_⟩
  · rw [List.nodup_append]
    exact ⟨h.nd, by simp, fun a ha b hb => by rw [List.mem_singleton.mp hb]; exact fun e => hq (e ▸ ha)⟩
  · rcases List.mem_append.mp hz with hz | hz
    · exact h.rb z hz
    · rw [List.mem_singleton.mp hz]; exact h.rh q List.mem_cons_self
  · rcases h.st with z | z
    · exact .inl (List.mem_append_left _ z)
    · rcases List.mem_cons.mp z with z | z
      · exact .inl (by rw [z]; simp)
      · exact .inr z
  · rcases List.mem_append.mp ha with ha | ha
    · rcases h.cl a ha b r with z | z | z
      · exact .inl (List.mem_append_left _ z)
      · rcases List.mem_cons.mp z with z | z
        · exact .inl (by rw [z]; simp)
        · exact .inr (.inl z)
      · exact z.elim
    · have e := List.mem_singleton.mp ha
      subst e
      exact .inr (.inr (hX b r))
theorem Srch.step (h : Srch ws p B W X) (hX : ∀ a b, X a b → X' a b ∨ b ∈ B ∨ b ∈ W) : Srch ws p B W X' :=
  ⟨h.nd, h.rb, h.rh, h.st, fun a ha b r => (h.cl a ha b r).elim .inl fun z => z.elim (fun z => .inr (.inl z)) fun z => (hX a b z).elim (fun z => .inr (.inr z)) fun z => z.elim .inl fun z => .inr (.inl z)⟩
theorem Srch.push (h : Srch ws p B W X) (hq : Rch ws p q) : Srch ws p B (W ++ [q]) X := by
  refine ⟨h.nd, h.rb, fun z hz => ?_, h.st.imp id (List.mem_append_left _), fun a ha b r => (h.cl a ha b r).imp id fun z => z.imp (List.mem_append_left _) id⟩
  rcases List.mem_append.mp hz with hz | hz
  · exact h.rh z hz
  · rw [List.mem_singleton.mp hz]; exact hq
theorem Srch.fin (h : Srch ws p B [] NoX) (q : List Int) : q ∈ B ↔ Rch ws p q := by
  refine ⟨h.rb q, fun r => r.inv (C := fun z => z ∈ B) (h.st.elim id fun z => nomatch z) fun a b ha r => ?_⟩
  rcases h.cl a ha b r with z | z | z
  · exact z
  · exact nomatch z
  · exact z.elim
theorem Srch.few {k : Int} (h : Srch ws p B W X) (hw : WsOk2 k ws) (hp : PosOk k ws.length p) : B.length ≤ k.toNat ^ ws.length :=
  cube_few h.nd fun q hq => (h.rb q hq).pos hw hp
end
theorem opn_iff {ws : List (List Ar)} {p : List Int} {i : Nat} {w : List Ar} {r : Ar} {x : Int} (hw : ws[i]? = some w) (hr : r ∈ w) (hx : p[i]? = some x) : opn ws p (i, r) ↔ r.a = x ∧ ∀ y ∈ p.take i, y ∈ r.g := by
  have hi : i < p.length := (List.getElem?_eq_some_iff.mp hx).1
  constructor
  · rintro ⟨v, h1, h2, h3, h4⟩
    have h3 : p[i]? = some r.a := h3
    rw [hx] at h3
    refine ⟨(Option.some.inj h3).symm, fun y hy => ?_⟩
    obtain ⟨j, hj, e⟩ := List.mem_iff_getElem.mp hy
    rw [List.length_take] at hj
    rw [List.getElem_take] at e
    have hj2 : j < i := by omega
    exact h4 j y hj2 (by rw [List.getElem?_eq_getElem (by omega), e])
  · rintro ⟨h1, h2⟩
    refine ⟨w, hw, hr, by rw [← h1] at hx; exact hx, fun j y hj hy => h2 y ?_⟩
    have hj : j < i := hj
    obtain ⟨h3, h4⟩ := List.getElem?_eq_some_iff.mp hy
    exact List.mem_iff_getElem.mpr ⟨j, by rw [List.length_take]; omega, by rw [List.getElem_take]; exact h4⟩
/-- the open arrows of the discs below i -/
structure OpI (ws : List (List Ar)) (p : List Int) (i l : Nat) (w : List Ar) (L : List (Nat × Ar)) : Prop where
  ok : ∀ m ∈ L, opn ws p m
  all : ∀ m, opn ws p m → m.1 < i → m ∈ L
  now : ∀ r ∈ w.take l, opn ws p (i, r) → (i, r) ∈ L
  few : L.length ≤ 600 * i + l
theorem OpI.next {ws : List (List Ar)} {p : List Int} {i l : Nat} {w : List Ar} {r : Ar} {L : List (Nat × Ar)} (h : OpI ws p i l w L) (hr : w[l]? = some r) (hn : ¬ opn ws p (i, r)) : OpI ws p i (l + 1) w L :=
  ⟨h.ok, h.all, fun s hs ho => by
    rw [take_next hr] at hs
    rcases List.mem_append.mp hs with hs | hs
    · exact h.now s hs ho
    · rw [List.mem_singleton.mp hs] at ho; exact absurd ho hn, Nat.le_succ_of_le h.few⟩
theorem OpI.add {ws : List (List Ar)} {p : List Int} {i l : Nat} {w : List Ar} {r : Ar} {L : List (Nat × Ar)} (h : OpI ws p i l w L) (hr : w[l]? = some r) (hn : opn ws p (i, r)) : OpI ws p i (l + 1) w (L ++ [(i, r)]) :=
  ⟨fun m hm => by
    rcases List.mem_append.mp hm with hm | hm
    · exact h.ok m hm
    · rw [List.mem_singleton.mp hm]; exact hn, fun m ho hm => List.mem_append_left _ (h.all m ho hm), fun s hs ho => by
    rw [take_next hr] at hs
    rcases List.mem_append.mp hs with hs | hs
    · exact List.mem_append_left _ (h.now s hs ho)
    · rw [List.mem_singleton.mp hs]; simp, by rw [List.length_append]; have := h.few; simp; omega⟩
theorem OpI.disc {ws : List (List Ar)} {p : List Int} {i : Nat} {w v : List Ar} {L : List (Nat × Ar)} (hw : ws[i]? = some w) (hl : w.length ≤ 600) (h : OpI ws p i w.length w L) : OpI ws p (i + 1) 0 v L :=
  ⟨h.ok, fun m ho hm => by
    by_cases e : m.1 < i
    · exact h.all m ho e
    · have e : m.1 = i := by omega
      obtain ⟨j, r⟩ := m
      have e : j = i := e
      subst e
      obtain ⟨u, h1, h2, _⟩ := id ho
      have h1 : ws[j]? = some u := h1
      rw [hw] at h1
      cases h1
      exact h.now r (by rw [List.take_length]; exact h2) ho, fun r hr => by simp at hr, by have := h.few; omega⟩
theorem OpI.fin {ws : List (List Ar)} {p : List Int} {w : List Ar} {L : List (Nat × Ar)} (h : OpI ws p ws.length 0 w L) (m : Nat × Ar) : m ∈ L ↔ opn ws p m :=
  ⟨h.ok m, fun ho => h.all m ho (by obtain ⟨w, h1, _⟩ := id ho; exact (List.getElem?_eq_some_iff.mp h1).1)⟩
/-- what waits -/
def WtOk (z : Option (Addr × Int × List D)) (c : Int) (W : List (List Int)) : Prop := (z = none ∧ W = []) ∨ ∃ b, z = some (b, c, W.map intsT)
def Ar.one (r : Ar) : Ar := ⟨r.a, r.b, r.g, 1⟩
theorem one_mark (r : Ar) : r.one.mark = r.mark := rfl
theorem sub_one (w : List Ar) : Sub (w.map Ar.one) w := fun m h => by
  rw [List.map_map] at h
  exact h
theorem sub_one' (w : List Ar) : Sub w (w.map Ar.one) := fun m h => by
  rw [List.map_map]
  exact h
theorem pd_map {α β : Type} {R : α → β → Prop} {f : α → β} (h : ∀ a, R a (f a)) : ∀ l : List α, Paired R l (l.map f)
  | [] => .nil
  | a :: l => .cons (h a) (pd_map h l)
theorem pd_map' {α β : Type} {R : β → α → Prop} {f : α → β} (h : ∀ a, R (f a) a) : ∀ l : List α, Paired R (l.map f) l
  | [] => .nil
  | a :: l => .cons (h a) (pd_map' h l)
theorem rch_one {ws : List (List Ar)} {p q : List Int} : Rch (ws.map fun w => w.map Ar.one) p q ↔ Rch ws p q :=
  ⟨fun h => h.mono (pd_map' sub_one ws), fun h => h.mono (pd_map sub_one' ws)⟩
theorem one_ok {k : Int} {ws : List (List Ar)} (h : WsOk2 k ws) : WsOk2 k (ws.map fun w => w.map Ar.one) := fun v hv => by
  obtain ⟨w, hw, rfl⟩ := List.mem_map.mp hv
  refine ⟨fun r hr => ?_, by rw [List.length_map]; exact (h w hw).few⟩
  obtain ⟨s, hs, rfl⟩ := List.mem_map.mp hr
  have := (h w hw).ok s hs
  exact ⟨this.a, this.b, this.ab, this.g, this.ga, this.gb, by show (1:Int) ≤ 1 ∧ (1:Int) ≤ 10 ^ 60; decide⟩
theorem turn_ok2 {k : Int} {ws : List (List Ar)} (h : WsOk2 k ws) : WsOk2 k (ws.map fun w => w.map Ar.turn) := fun v hv => by
  obtain ⟨w, hw, rfl⟩ := List.mem_map.mp hv
  refine ⟨fun r hr => ?_, by rw [List.length_map]; exact (h w hw).few⟩
  obtain ⟨s, hs, rfl⟩ := List.mem_map.mp hr
  exact turn_ok ((h w hw).ok s hs)
end
end DL
namespace DL
open PySem L2 PyProof.Rows
noncomputable section
section
variable {T : Tx} {K : PySem.W.Frag} {mg : Str → Option Value} {base : Heap} {f f0 f1 f2 f3 f4 f5 f6 f7 : Addr} {fd fd0 fd1 fd2 fd3 fd4 fd5 fd6 fd7 : FuncData} [ci : CI T K] [n1 : NoF "turned"] [n2 : NoF "renamed"] [n3 : NoF "guards"]
theorem more_ok {k : Int} {w e : List Ar} (hw : WOk k w) (he : WOk k e) (wl : w.length ≤ 50) (el : e.length ≤ 50) : WOk k (w ++ e.filter fun r => decide (r.md ∉ w.map Ar.md)) ∧ (w ++ e.filter fun r => decide (r.md ∉ w.map Ar.md)).length ≤ 100 := by
  have hl : (e.filter fun r => decide (r.md ∉ w.map Ar.md)).length ≤ 50 := Nat.le_trans (List.length_filter_le _ _) el
  refine ⟨⟨fun r hr => ?_, ?_, by rw [List.length_append]; omega⟩, by rw [List.length_append]; omega⟩
  · rcases List.mem_append.mp hr with hr | hr
    · exact hw.ok r hr
    · exact he.ok r (List.mem_filter.mp hr).1
  · rw [List.map_append, List.nodup_append]
    refine ⟨hw.nd, (List.filter_sublist.map Ar.md).nodup he.nd, fun a ha b hb e => ?_⟩
    obtain ⟨r, hr, rfl⟩ := List.mem_map.mp hb
    exact of_decide_eq_true (List.mem_filter.mp hr).2 (e ▸ ha)
def po__law_more : List D → (D → Prop) → Prop := fun ds P => ∃ (k : Int) (ws : List (List Ar)), ds = [.int k, websD ws] ∧ (3 ≤ k ∧ k ≤ 5) ∧ WsOk k ws ∧ ws.length ≤ 40 ∧ (∀ w ∈ ws, w.length ≤ 50) ∧ (∀ vs : List (List Ar), WsOk k vs → (∀ v ∈ vs, v.length ≤ 100) → Paired (fun w v => ∀ r ∈ w, r ∈ v) ws vs → P (websD vs))
theorem sc__law_more : FnScope ["_law_draws_here", "_law_pegs", "_law_webs_here", "_law_extra", "_law_rows", "_law_web_here", "_law_marks", "_law_row", "_law_arrow", "_law_turn"] ["_law_draws_here", "_law_pegs", "_law_webs_here"] (defScope s__law_more) := ⟨rfl, rfl, rfl, by decide +kernel, rfl, by decide +kernel, by decide +kernel⟩
theorem ok__law_more (F : FnP K "_law_more" "_law_more" s__law_more f fd) (Z : Free mg) (U__law_take : Use T.prog T.w K mg base "_law_take" 1 ["_law_draws_here", "_law_many"] (spR T po__law_take) f0 fd0) (U__law_web : Use T.prog T.w K mg base "_law_web" 3 ["_law_draws_here", "_law_pegs", "_law_kind_here"] (spR T po__law_web) f1 fd1) : FnOk T.prog T.w K mg base CX0 4 f fd ["_law_draws_here", "_law_pegs", "_law_webs_here"] (spR T po__law_more) := by
  have sc := sc__law_more
  refine okR (T := T) F sc (fun ds P h => ?_) fun cdv A outer s H E hr => ⟨_, (pss_cons (ps_setLc (i := 3) (own := [("_law_turn", 9)]) rfl sc.nd rfl rfl (sw_true rfl rfl rfl (by decide +kernel)) (pi_range1 (by rfl) Z.range (pa_cons pe_int pa_nil)) (blkOk_by (N := ["_law_draws_here", "_law_pegs", "_law_webs_here", "_law_extra", "_law_rows", "_law_web_here", "_law_marks", "_law_row", "_law_arrow", "_law_turn"]) (sc := defScope s__law_more) (by decide +kernel)) (fun _ _ _ _ _ => (pg_name (i := 9) sc.nd rfl (by first | exact Or.inl rfl | exact Or.inr rfl))) (fun _ _ _ _ _ => pts_nil) (fun _ _ _ _ _ => (pe_use U__law_web (hr.mono (by decide)) (by rfl) (pa_cons (pv 0) (pa_cons (pv 1) (pa_cons pe_str pa_nil))))))
        (pss_cons (ps_own (ps_set (i := 4) sc.nd rfl (by first | exact Or.inl rfl | exact Or.inr rfl) (pe_lst pa_nil)))
        (pss_cons (ps_for PassesOwn.never rfl (pi_seqK (K := K) rfl (pv 2)) (pg_name (i := 5) sc.nd rfl (by first | exact Or.inl rfl | exact Or.inr rfl)) (pss_consJ (ps_setLc (i := 6) (own := [("_law_arrow", 8)]) rfl sc.nd rfl rfl (sw_true rfl rfl rfl (by decide +kernel)) (pi_seqK (K := K) rfl (pv 5)) (blkOk_by (N := ["_law_draws_here", "_law_pegs", "_law_webs_here", "_law_extra", "_law_rows", "_law_web_here", "_law_marks", "_law_row", "_law_arrow", "_law_turn"]) (sc := defScope s__law_more) (by decide +kernel)) (fun _ _ _ _ _ => (pg_name (i := 8) sc.nd rfl (by first | exact Or.inl rfl | exact Or.inr rfl))) (fun _ _ _ _ _ => pts_nil) (fun _ _ _ _ _ => (pe_slice (sl_anyK (K := K) rfl) (pv 8) po_none (po_some pe_int))))
        (pss_consJ (ps_own (ps_set (i := 7) sc.nd rfl (by first | exact Or.inl rfl | exact Or.inr rfl) (pe_callTy (c_list2 (K := K) rfl) (by rfl) Z.list bt_list (pa_cons (pv 5) pa_nil))))
        (pss_consJ (ps_if (pt_cmpR (o_eqK (K := K) rfl (hu64 hr)) (pe_use U__law_take (hr.mono (by decide)) (by rfl) (pa_cons (pv 0) (pa_cons pe_int pa_nil))) pe_int (nomark _)) (pss_one (ps_for PassesOwn.never rfl (pi_seqK (K := K) rfl (pe_ix (ix_seqK (K := K) rfl) (pv 3) (pe_use U__law_take (hr.mono (by decide)) (by rfl) (pa_cons (pv 0) (pa_cons pe_int pa_nil))) (fun _ _ => rfl))) (pg_name (i := 8) sc.nd rfl (by first | exact Or.inl rfl | exact Or.inr rfl)) (pss_one (ps_if (pt_cmpR (o_notInK (K := K) rfl (hu65 hr)) (pe_slice (sl_anyK (K := K) rfl) (pv 8) po_none (po_some pe_int)) (pv 6) (by rfl)) (pss_one (ps_expr (pe_bm PySem.F.plainAttrs_list PySem.F.slot_list_append PySem.F.type_list_append mt_append (pv 7) (pa_cons (pv 8) pa_nil)))) pss_nil)))) pss_nil)
        (pss_one (ps_expr (pe_bm PySem.F.plainAttrs_list PySem.F.slot_list_append PySem.F.type_list_append mt_append (pv 4) (pa_cons (pe_borL 7 (pe_callB (c_sort2 (T := T) (K := K) rfl ⟨rfl, rfl⟩ rfl (hu65 hr)) (by rfl) Z.sorted bt_sorted (pa_cons (pv 7) pa_nil))) pa_nil))))))))
        (pss_one (ps_ret (pvo 4 (pv 4))))))), fun ds P h => ?_⟩
  · obtain ⟨k, ws, rfl, _⟩ := h; rfl
  · obtain ⟨k, ws, rfl, p0, p1, p2, p3, h⟩ := h
    refine Left.mk ?_
    simp (maxSteps := 3000000) [argsOf, and_assoc, po__law_take, po__law_web]
    refine ⟨by rw [rangeD_len]; decide, fun i acc => ∃ es : List (List Ar), acc = es.map (fun w => D.lst (w.map Ar.d)) ∧ (∀ w ∈ es, WOk k w ∧ w.length ≤ 50) ∧ es.length = i, ⟨[], rfl, fun w hw => (nomatch hw), rfl⟩, ?_, ?_⟩
    · rintro i d acc hd ⟨es, rfl, hes, hl⟩
      refine ⟨p0.1, p0.2, fun w hw hw2 => ⟨es ++ [w], by simp, fun u hu => ?_, by simp [hl]⟩⟩
      rcases List.mem_append.mp hu with hu | hu
      · exact hes u hu
      · rw [List.mem_singleton.mp hu]; exact ⟨hw, hw2⟩
    · rintro acc ⟨es, rfl, hes, hel⟩
      rw [rangeD_len] at hel
      refine ⟨fun i ρ => ∃ (vs : List (List Ar)) (o5 o6 o7 o8 o9 : Option Kn), ρ = [some .dr, some (.v (.int k)), some (.v (websD ws)), some (.v (websD es)), some (.o (vs.map fun w => .lst (w.map Ar.d))), o5, o6, o7, o8, o9] ∧ Paired (fun w v => ∀ r ∈ w, r ∈ v) (ws.take i) vs ∧ ∀ v ∈ vs, WOk k v ∧ v.length ≤ 100, ⟨[], _, _, _, _, _, rfl, .nil, fun v hv => (nomatch hv)⟩, ?_, ?_⟩
      · rintro i d ρ w hw rfl ⟨vs, o5, o6, o7, o8, o9, rfl, hp, hv⟩
        have ok := p1 w (mem_get hw)
        have wl := p3 w (mem_get hw)
        have vl := Paired.length hp
        rw [List.length_take] at vl
        refine ⟨fun ρ => ∃ (o7 o8 o9 : Option Kn), ρ = [some .dr, some (.v (.int k)), some (.v (websD ws)), some (.v (websD es)), some (.o (vs.map fun w => .lst (w.map Ar.d))), some (.v (.lst (w.map Ar.d))), some (.v (.lst (w.map Ar.md))), o7, o8, o9], ⟨_, rfl, _, .inl rfl, by rw [List.length_map]; omega, fun l acc => acc = (w.take l).map Ar.md, rfl, ?_, ?_⟩, ?_⟩
        · rintro l d acc hd rfl
          obtain ⟨r, hr', rfl⟩ := get_map hd
          refine ⟨_, rfl, .inr ⟨_, rfl, ?_⟩⟩
          show _ = _
          rw [take_next hr', List.map_append]
          rfl
        · rintro acc rfl
          rw [List.length_map, List.take_length]
          exact ⟨_, _, _, rfl⟩
        rintro ρ ⟨o7, o8, o9, rfl⟩
        refine ⟨fun ρ => ∃ (o8 o9 : Option Kn), ρ = [some .dr, some (.v (.int k)), some (.v (websD ws)), some (.v (websD es)), some (.o (vs.map fun w => .lst (w.map Ar.d))), some (.v (.lst (w.map Ar.d))), some (.v (.lst (w.map Ar.md))), some (.o (w.map Ar.d)), o8, o9], ⟨_, rfl, _, .inl rfl, _, _, rfl⟩, ?_⟩
        rintro ρ ⟨o8, o9, rfl⟩
        refine ⟨rfl, fun ρ => ∃ (u : List Ar) (o8 o9 : Option Kn), ρ = [some .dr, some (.v (.int k)), some (.v (websD ws)), some (.v (websD es)), some (.o (vs.map fun w => .lst (w.map Ar.d))), some (.v (.lst (w.map Ar.d))), some (.v (.lst (w.map Ar.md))), some (.o (u.map Ar.d)), o8, o9] ∧ (∀ r ∈ w, r ∈ u) ∧ WOk k u ∧ u.length ≤ 100, ?_, ?_⟩
        · intro z z1 z2
          by_cases hz : z = 0
          · rw [if_pos hz]
            refine ⟨_, rfl, rfl, fun y y1 y2 => ?_⟩
            have hy : y.toNat < es.length := by omega
            obtain ⟨e, he⟩ : ∃ e, es[y.toNat]? = some e := ⟨es[y.toNat], List.getElem?_eq_getElem hy⟩
            obtain ⟨eok, el⟩ := hes e (mem_get he)
            refine ⟨_, .inl rfl, y.toNat, by omega, _, by rw [List.getElem?_map, he]; rfl, _, .inl rfl, fun l ρ => ∃ (o8 : Option Kn), ρ = [some .dr, some (.v (.int k)), some (.v (websD ws)), some (.v (websD es)), some (.o (vs.map fun w => .lst (w.map Ar.d))), some (.v (.lst (w.map Ar.d))), some (.v (.lst (w.map Ar.md))), some (.o ((w ++ (e.take l).filter fun r => decide (r.md ∉ w.map Ar.md)).map Ar.d)), o8, o9], ⟨_, by simp; rfl⟩, ?_, ?_⟩
            · rintro l d ρ hd ⟨o8, rfl⟩
              obtain ⟨r, hr', rfl⟩ := get_map hd
              have few : ((e.take l).filter fun r => decide (r.md ∉ w.map Ar.md)).length ≤ 50 := by
                refine Nat.le_trans (List.length_filter_le _ _) ?_
                rw [List.length_take]
                omega
              refine ⟨_, rfl, .inr ⟨_, rfl, _, rfl, _, .inl rfl, by simp, fitA_map (fun g => by simp [Ar.md]) w, ?_⟩⟩
              by_cases hm : r.md ∈ w.map Ar.md
              · refine .inl ⟨hm, some (.v r.d), ?_⟩
                rw [take_next hr', List.filter_append, List.filter_cons_of_neg (by simpa using hm)]
                simp
              · refine .inr ⟨hm, _, rfl, _, rfl, by rw [List.length_map, List.length_append]; omega, some (.v r.d), ?_⟩
                rw [take_next hr', List.filter_append, List.filter_cons_of_pos (by simpa using hm)]
                simp
            · rintro ρ ⟨o8, rfl⟩
              rw [List.length_map, List.take_length]
              obtain ⟨m1, m2⟩ := more_ok ok eok wl el
              exact ⟨_, _, _, rfl, fun r hr => List.mem_append_left _ hr, m1, m2⟩
          · rw [if_neg hz]
            exact ⟨w, _, _, rfl, fun r hr => hr, ok, by omega⟩
        · rintro ρ ⟨u, o8, o9, rfl, hu1, hu2, hu3⟩
          refine ⟨_, rfl, _, rfl, _, rfl, _, .inl rfl, sortOk_ard u, fun fs pm _ => ?_⟩
          obtain ⟨L, pL, e⟩ := perm_map_inv pm u rfl
          subst e
          refine ⟨imA_map (fun r => by simp) L, by rw [List.length_map]; omega, vs ++ [L], some (.v (.lst (w.map Ar.d))), some (.v (.lst (w.map Ar.md))), some (.o (u.map Ar.d)), o8, o9, by simp, ?_, fun v hv' => ?_⟩
          · rw [take_next hw]
            exact pd_snoc hp fun r hr => pL.mem_iff.mpr (hu1 r hr)
          · rcases List.mem_append.mp hv' with hv' | hv'
            · exact hv v hv'
            · rw [List.mem_singleton.mp hv']
              exact ⟨wok_perm pL hu2, by rw [pL.length_eq]; exact hu3⟩
      · rintro ρ ⟨vs, o5, o6, o7, o8, o9, rfl, hp, hv⟩
        rw [List.take_length] at hp
        exact ⟨_, rfl, h vs (fun v hv' => (hv v hv').1) (fun v hv' => (hv v hv').2) hp⟩
def po__law_box_rows : List D → (D → Prop) → Prop := fun ds P => ∃ (Ss : List (List Int)), ds = [.tup (Ss.map intsT)] ∧ (∀ S ∈ Ss, S.length ≤ 5) ∧ Ss.length ≤ 4 ∧ P (.lst ((boxR Ss).map intsT))
theorem sc__law_box_rows : FnScope ["_law_box", "_law_rows", "_law_pegs", "_law_longer", "_law_row", "_law_peg"] ["_law_box"] (defScope s__law_box_rows) := ⟨rfl, rfl, rfl, by decide +kernel, rfl, by decide +kernel, by decide +kernel⟩
theorem ok__law_box_rows (F : FnP K "_law_box_rows" "_law_box_rows" s__law_box_rows f fd) (Z : Free mg)  : FnOk T.prog T.w K mg base CX0 1 f fd ["_law_box"] (spD T po__law_box_rows) := by
  have sc := sc__law_box_rows
  refine okD (T := T) F sc (fun ds P h => ?_) fun cdv A outer s H E hr => ⟨_, (pss_cons (ps_set (i := 1) sc.nd rfl (by first | exact Or.inl rfl | exact Or.inr rfl) (pe_lst (pa_cons (pe_tup pa_nil) pa_nil)))
        (pss_cons (ps_for PassesOwn.never rfl (pi_seqK (K := K) rfl (pv 0)) (pg_name (i := 2) sc.nd rfl (by first | exact Or.inl rfl | exact Or.inr rfl)) (pss_cons (ps_own (ps_set (i := 3) sc.nd rfl (by first | exact Or.inl rfl | exact Or.inr rfl) (pe_lst pa_nil)))
        (pss_cons (ps_for PassesOwn.never rfl (pi_seqK (K := K) rfl (pv 1)) (pg_name (i := 4) sc.nd rfl (by first | exact Or.inl rfl | exact Or.inr rfl)) (pss_one (ps_for PassesOwn.never rfl (pi_seqK (K := K) rfl (pv 2)) (pg_name (i := 5) sc.nd rfl (by first | exact Or.inl rfl | exact Or.inr rfl)) (pss_one (ps_expr (pe_bm PySem.F.plainAttrs_list PySem.F.slot_list_append PySem.F.type_list_append mt_append (pv 3) (pa_cons (pe_op (o_plusK (K := K) rfl) (pv 4) (pe_tup (pa_cons (pv 5) pa_nil))) pa_nil)))))))
        (pss_one (ps_set (i := 1) sc.nd rfl (by first | exact Or.inl rfl | exact Or.inr rfl) (pe_borL 3 (pe_callTy (c_list2 (K := K) rfl) (by rfl) Z.list bt_list (pa_cons (pv 3) pa_nil))))))))
        (pss_one (ps_ret (pv 1))))), fun ds P h => ?_⟩
  · obtain ⟨Ss, rfl, _⟩ := h; rfl
  · obtain ⟨Ss, rfl, p0, p1, h⟩ := h
    refine Left.mk ?_
    simp (maxSteps := 3000000) [argsOf, and_assoc]
    refine ⟨fun i ρ => ∃ o2 o3 o4 o5, ρ = [some (.v (.tup (Ss.map intsT))), some (.v (.lst ((boxR (Ss.take i)).map intsT))), o2, o3, o4, o5], ⟨_, _, _, _, rfl⟩, ?_, ?_⟩
    · rintro i d ρ S hS rfl ⟨o2, o3, o4, o5, rfl⟩
      have hi : i < Ss.length := (List.getElem?_eq_some_iff.mp hS).1
      obtain ⟨b1, b2⟩ := boxR_bound Ss p0 i (by omega)
      obtain ⟨b3, _⟩ := boxR_bound Ss p0 (i + 1) (by omega)
      have c1 := pow5 (show i ≤ 4 by omega)
      have c3 := pow5 (show i + 1 ≤ 4 by omega)
      rw [take_next hS, boxR_snoc] at b3
      refine ⟨_, rfl, _, .inl rfl, fun j ρ => ∃ o4 o5, ρ = [some (.v (.tup (Ss.map intsT))), some (.v (.lst ((boxR (Ss.take i)).map intsT))), some (.v (intsT S)), some (.o ((boxS ((boxR (Ss.take i)).take j) S).map intsT)), o4, o5], ⟨_, _, rfl⟩, ?_, ?_⟩
      · rintro j d ρ hd ⟨o4, o5, rfl⟩
        obtain ⟨r, hr', rfl⟩ := get_map hd
        have rl := b2 r (mem_get hr')
        have jl : j < (boxR (Ss.take i)).length := (List.getElem?_eq_some_iff.mp hr').1
        have s5 := p0 S (mem_get hS)
        have bl : (boxS ((boxR (Ss.take i)).take j) S).length ≤ 3125 := by
          rw [boxS_len, List.length_take]
          exact Nat.le_trans (Nat.mul_le_mul (Nat.le_trans (Nat.min_le_right _ _) (Nat.le_trans b1 c1)) s5) (by decide)
        refine ⟨_, rfl, _, .inr rfl, fun l ρ => ∃ o5, ρ = [some (.v (.tup (Ss.map intsT))), some (.v (.lst ((boxR (Ss.take i)).map intsT))), some (.v (intsT S)), some (.o ((boxS ((boxR (Ss.take i)).take j) S ++ (S.take l).map fun y => r ++ [y]).map intsT)), some (.v (intsT r)), o5], ⟨_, by simp; rfl⟩, ?_, ?_⟩
        · rintro l d ρ hd ⟨o5, rfl⟩
          obtain ⟨y, hy, rfl⟩ := get_intD hd
          refine ⟨_, rfl, _, rfl, _, rfl, r.map .int, rfl, by rw [List.length_map]; omega, ?_, some (.v (.int y)), ?_⟩
          · rw [List.length_map, List.length_append, List.length_map, List.length_take]
            omega
          · rw [take_next hy]
            simp
        · rintro ρ ⟨o5, rfl⟩
          refine ⟨some (.v (intsT r)), o5, ?_⟩
          rw [take_next hr', boxS_snoc, List.length_map, List.take_length]
      · rintro ρ ⟨o4, o5, rfl⟩
        rw [List.length_map, List.take_length]
        refine ⟨_, rfl, _, rfl, _, .inl rfl, imA_map (fun r => by simp) _, some (.v (intsT S)), some (.o ((boxS (boxR (Ss.take i)) S).map intsT)), o4, o5, ?_⟩
        rw [take_next hS, boxR_snoc]
        rfl
    · rintro ρ ⟨o2, o3, o4, o5, rfl⟩
      rw [List.take_length]
      exact ⟨_, rfl, h⟩
def po__law_open : List D → (D → Prop) → Prop := fun ds P => ∃ (ws : List (List Ar)) (p : List Int), ds = [websD ws, intsT p] ∧ p.length = ws.length ∧ ws.length ≤ 4 ∧ (∀ w ∈ ws, w.length ≤ 600) ∧ (∀ ms : List (Nat × Ar), (∀ m, m ∈ ms ↔ opn ws p m) → ms.length ≤ 2400 → P (.lst (ms.map mvD)))
theorem sc__law_open : FnScope ["_law_webs_here", "_law_position_here", "_law_rows", "_law_disc", "_law_arrow", "_law_fits", "_law_lesser"] ["_law_webs_here", "_law_position_here"] (defScope s__law_open) := ⟨rfl, rfl, rfl, by decide +kernel, rfl, by decide +kernel, by decide +kernel⟩
theorem ok__law_open (F : FnP K "_law_open" "_law_open" s__law_open f fd) (Z : Free mg)  : FnOk T.prog T.w K mg base CX0 1 f fd ["_law_webs_here", "_law_position_here"] (spD T po__law_open) := by
  have sc := sc__law_open
  refine okD (T := T) F sc (fun ds P h => ?_) fun cdv A outer s H E hr => ⟨_, (pss_cons (ps_own (ps_set (i := 2) sc.nd rfl (by first | exact Or.inl rfl | exact Or.inr rfl) (pe_lst pa_nil)))
        (pss_cons (ps_for PassesOwn.never rfl (pi_range1 (by rfl) Z.range (pa_cons (pe_callB (c_lenK2 (K := K) rfl) (by rfl) Z.len bt_len (pa_cons (pv 0) pa_nil)) pa_nil)) (pg_name (i := 3) sc.nd rfl (by first | exact Or.inl rfl | exact Or.inr rfl)) (pss_one (ps_for PassesOwn.never rfl (pi_seqK (K := K) rfl (pe_ix (ix_seqK (K := K) rfl) (pv 0) (pv 3) (fun _ _ => rfl))) (pg_name (i := 4) sc.nd rfl (by first | exact Or.inl rfl | exact Or.inr rfl)) (pss_one (ps_if (pt_cmpR (o_eqK (K := K) rfl (hu64 hr)) (pe_ix (ix_seqK (K := K) rfl) (pv 4) pe_int (fun _ _ => rfl)) (pe_ix (ix_seqK (K := K) rfl) (pv 1) (pv 3) (fun _ _ => rfl)) (nomark _)) (pss_cons (ps_set (i := 5) sc.nd rfl (by first | exact Or.inl rfl | exact Or.inr rfl) pe_bl)
        (pss_cons (ps_for PassesOwn.never rfl (pi_range1 (by rfl) Z.range (pa_cons (pv 3) pa_nil)) (pg_name (i := 6) sc.nd rfl (by first | exact Or.inl rfl | exact Or.inr rfl)) (pss_one (ps_if (pt_cmpR (o_notInK (K := K) rfl (hu65 hr)) (pe_ix (ix_seqK (K := K) rfl) (pv 1) (pv 6) (fun _ _ => rfl)) (pe_ix (ix_seqK (K := K) rfl) (pv 4) pe_int (fun _ _ => rfl)) (by rfl)) (pss_one (ps_set (i := 5) sc.nd rfl (by first | exact Or.inl rfl | exact Or.inr rfl) pe_bl)) pss_nil)))
        (pss_one (ps_if (pt_val (pv 5)) (pss_one (ps_expr (pe_bm PySem.F.plainAttrs_list PySem.F.slot_list_append PySem.F.type_list_append mt_append (pv 2) (pa_cons (pe_tup (pa_cons (pv 3) (pa_cons (pe_ix (ix_seqK (K := K) rfl) (pv 4) pe_int (fun _ _ => rfl)) (pa_cons (pe_ix (ix_seqK (K := K) rfl) (pv 4) pe_int (fun _ _ => rfl)) (pa_cons (pe_ix (ix_seqK (K := K) rfl) (pv 4) pe_int (fun _ _ => rfl)) (pa_cons (pe_ix (ix_seqK (K := K) rfl) (pv 4) pe_int (fun _ _ => rfl)) pa_nil)))))) pa_nil)))) pss_nil)))) pss_nil)))))
        (pss_one (ps_ret (pvo 2 (pv 2)))))), fun ds P h => ?_⟩
  · obtain ⟨ws, p, rfl, _⟩ := h; rfl
  · obtain ⟨ws, p, rfl, p0, p1, p2, h⟩ := h
    refine Left.mk ?_
    simp (maxSteps := 3000000) [argsOf, and_assoc]
    refine ⟨by omega, fun i ρ => ∃ (L : List (Nat × Ar)) (o3 o4 o5 o6 : Option Kn), ρ = [some (.v (websD ws)), some (.v (intsT p)), some (.o (L.map mvD)), o3, o4, o5, o6] ∧ OpI ws p i 0 [] L, ⟨[], _, _, _, _, rfl, fun m hm => (nomatch hm), fun m _ hm => absurd hm (Nat.not_lt_zero _), fun r hr => by simp at hr, Nat.zero_le _⟩, ?_, ?_⟩
    · rintro i d ρ hd ⟨L, o3, o4, o5, o6, rfl, hL⟩
      obtain ⟨hi, rfl⟩ := rangeD_some hd
      obtain ⟨w, hw⟩ : ∃ w, ws[i]? = some w := ⟨ws[i], List.getElem?_eq_getElem hi⟩
      obtain ⟨x, hx⟩ : ∃ x, p[i]? = some x := ⟨p[i], List.getElem?_eq_getElem (by omega)⟩
      have wl := p2 w (mem_get hw)
      refine ⟨_, rfl, _, rfl, _, .inl rfl, i, rfl, _, by rw [List.getElem?_map, hw]; rfl, _, .inl rfl, fun l ρ => ∃ (L : List (Nat × Ar)) (o4 o5 o6 : Option Kn), ρ = [some (.v (websD ws)), some (.v (intsT p)), some (.o (L.map mvD)), some (.v (.int i)), o4, o5, o6] ∧ OpI ws p i l w L, ⟨L, _, _, _, rfl, hL.ok, hL.all, fun r hr => by simp at hr, hL.few⟩, ?_, ?_⟩
      · rintro l d ρ hd ⟨L, o4, o5, o6, rfl, hL⟩
        obtain ⟨r, hr', rfl⟩ := get_map hd
        have oi := opn_iff hw (mem_get hr') hx
        have ll : l < w.length := (List.getElem?_eq_some_iff.mp hr').1
        refine ⟨_, rfl, _, .inr rfl, 0, rfl, _, rfl, _, rfl, _, rfl, _, .inr rfl, i, rfl, _, by rw [List.getElem?_map, hx]; rfl, eqOk_int _ _, ?_⟩
        by_cases ha : r.a = x
        · rw [if_pos (by rw [ha])]
          refine ⟨_, rfl, i, rfl, by omega, by omega, fun j ρ => ∃ o6, ρ = [some (.v (websD ws)), some (.v (intsT p)), some (.o (L.map mvD)), some (.v (.int i)), some (.v r.d), some (.v (.bl (decide (∀ y ∈ p.take j, y ∈ r.g)))), o6], ⟨_, by simp; rfl⟩, ?_, ?_⟩
          · rintro j d ρ hd ⟨o6, rfl⟩
            obtain ⟨hj, rfl⟩ := rangeD_some hd
            have hj : j < i := by omega
            obtain ⟨y, hy⟩ : ∃ y, p[j]? = some y := ⟨p[j], List.getElem?_eq_getElem (by omega)⟩
            refine ⟨_, rfl, _, rfl, _, .inr rfl, j, rfl, _, by rw [List.getElem?_map, hy]; rfl, _, rfl, _, .inr rfl, 2, rfl, _, rfl, _, .inr rfl, rfl, fitA_map (fun g => by simp) r.g, ?_⟩
            by_cases hg : y ∈ r.g
            · refine .inl ⟨mem_intD.mpr hg, some (.v (.int j)), ?_⟩
              rw [take_next hy]
              have : (∀ z ∈ p.take j ++ [y], z ∈ r.g) ↔ ∀ z ∈ p.take j, z ∈ r.g := ⟨fun h z hz => h z (List.mem_append_left _ hz), fun h z hz => by
                rcases List.mem_append.mp hz with hz | hz
                · exact h z hz
                · rw [List.mem_singleton.mp hz]; exact hg⟩
              rw [decide_eq_decide.mpr this]
              rfl
            · refine .inr ⟨fun z => hg (mem_intD.mp z), some (.v (.int j)), ?_⟩
              rw [take_next hy]
              have : ¬ ∀ z ∈ p.take j ++ [y], z ∈ r.g := fun h => hg (h y (by simp))
              rw [decide_eq_false this]
              rfl
          · rintro ρ ⟨o6, rfl⟩
            rw [rangeD_len]
            refine ⟨_, rfl, ?_⟩
            by_cases hg : ∀ y ∈ p.take i, y ∈ r.g
            · refine .inr ⟨by rw [Int.toNat_natCast, decide_eq_true hg], _, rfl, _, rfl, _, rfl, _, .inr rfl, 0, rfl, _, rfl, _, rfl, _, .inr rfl, 1, rfl, _, rfl, _, rfl, _, .inr rfl, 2, rfl, _, rfl, _, rfl, _, .inr rfl, 3, rfl, _, rfl, ?_, L ++ [(i, r)], some (.v r.d), some (.v (.bl (decide (∀ y ∈ p.take (Int.toNat (i : Int)), y ∈ r.g)))), o6, ?_, hL.add hr' (oi.mpr ⟨ha, hg⟩)⟩
              · rw [List.length_map]; have := hL.few; omega
              · rw [List.map_append]; rfl
            · exact .inl ⟨by rw [Int.toNat_natCast, decide_eq_false hg], L, _, _, o6, rfl, hL.next hr' fun z => hg (oi.mp z).2⟩
        · rw [if_neg fun z => ha (D.int.inj z)]
          exact ⟨L, _, _, _, rfl, hL.next hr' fun z => ha (oi.mp z).1⟩
      · rintro ρ ⟨L, o4, o5, o6, rfl, hL⟩
        rw [List.length_map] at hL
        exact ⟨L, _, _, _, _, rfl, hL.disc hw wl⟩
    · rintro ρ ⟨L, o3, o4, o5, o6, rfl, hL⟩
      rw [rangeD_len] at hL
      exact ⟨_, rfl, h L hL.fin (by have := hL.few; omega)⟩
end
end
end DL
namespace DL
open PySem L2 PyProof.Rows
noncomputable section
section
variable {T : Tx} {K : PySem.W.Frag} {mg : Str → Option Value} {base : Heap} {f f0 f1 f2 f3 f4 f5 f6 f7 : Addr} {fd fd0 fd1 fd2 fd3 fd4 fd5 fd6 fd7 : FuncData} [ci : CI T K] [n1 : NoF "turned"] [n2 : NoF "renamed"] [n3 : NoF "guards"]
def po__law_costs : List D → (D → Prop) → Prop := fun ds P => ∃ (k : Int) (ws : List (List Ar)) (p : List Int), ds = [websD ws, intsT p] ∧ (3 ≤ k ∧ k ≤ 5) ∧ WsOk2 k ws ∧ (∀ w ∈ ws, ∀ r ∈ w, r.c = 1) ∧ ws.length ≤ 4 ∧ PosOk k ws.length p ∧ k.toNat ^ ws.length ≤ 100 ∧ (∀ (B : List (List Int)) (vs : List D), B.Nodup → (∀ q, q ∈ B ↔ Rch ws p q) → P (.dct (B.map intsT) vs))
theorem sc__law_costs : FnScope ["_law_webs_here", "_law_start", "_law_best", "_law_waiting", "_law_turn", "_law_cost_here", "_law_rows", "_law_here", "_law_move", "_law_there", "_law_further"] ["_law_webs_here", "_law_start"] (defScope s__law_costs) := ⟨rfl, rfl, rfl, by decide +kernel, rfl, by decide +kernel, by decide +kernel⟩
theorem ok__law_costs (F : FnP K "_law_costs" "_law_costs" s__law_costs f fd) (Z : Free mg) (U__law_open : Use T.prog T.w K mg base "_law_open" 1 ["_law_webs_here", "_law_position_here"] (spD T po__law_open) f0 fd0) (U__law_behind : Use T.prog T.w K mg base "_law_behind" 1 ["_law_position_here", "_law_disc", "_law_stop"] (spD T po__law_behind) f1 fd1) : FnOk T.prog T.w K mg base CX0 2 f fd ["_law_webs_here", "_law_start"] (spD T po__law_costs) := by
  have sc := sc__law_costs
  refine okD (T := T) F sc (fun ds P h => ?_) fun cdv A outer s H E hr => ⟨_, (pss_cons (ps_own (ps_set (i := 2) sc.nd rfl (by first | exact Or.inl rfl | exact Or.inr rfl) (pe_newN (T := T))))
        (pss_cons (ps_own (ps_set (i := 3) sc.nd rfl (by first | exact Or.inl rfl | exact Or.inr rfl) (pe_disp (pps_cons pe_int (pe_lst (pa_cons (pe_callTy (c_tuple2 (K := K) rfl) (by rfl) Z.tuple bt_tuple (pa_cons (pv 1) pa_nil)) pa_nil)) pps_nil) rfl rfl (fun z => nomatch z) (by decide))))
        (pss_cons (ps_for PassesOwn.never rfl (pi_range1 (by rfl) Z.range (pa_cons pe_int pa_nil)) (pg_name (i := 4) sc.nd rfl (by first | exact Or.inl rfl | exact Or.inr rfl)) (pss_one (ps_if (pt_cmpR o_gt (pe_callB c_lenK (by rfl) Z.len bt_len (pa_cons (pv 3) pa_nil)) pe_int (nomark _)) (pss_cons (ps_set (i := 5) sc.nd rfl (by first | exact Or.inl rfl | exact Or.inr rfl) (pe_callB (c_minL2 (K := K) rfl rfl) (by rfl) Z.min bt_min (pa_cons (pe_callTy (c_listK rfl) (by rfl) Z.list bt_list (pa_cons (pv 3) pa_nil)) pa_nil)))
        (pss_cons (ps_set (i := 6) sc.nd rfl (by first | exact Or.inl rfl | exact Or.inr rfl) (pe_dpop1 (pv 3) (pv 5) ⟨rfl, rfl, rfl, rfl⟩))
        (pss_one (ps_for PassesOwn.never rfl (pi_seqK (K := K) rfl (pv 6)) (pg_name (i := 7) sc.nd rfl (by first | exact Or.inl rfl | exact Or.inr rfl)) (pss_one (ps_if (pt_borD 2 (pt_cmpR (o_notInN (T := T) ⟨rfl, rfl⟩ (hu64 hr)) (pv 7) (pv 2) (by rfl))) (pss_cons (ps_asg (pv 5) (pg_sub (pv 2) (pv 7) (set_dictN (T := T) ⟨rfl, rfl⟩ (hu64 hr))))
        (pss_one (ps_for PassesOwn.never rfl (pi_seqK (K := K) rfl (pe_use U__law_open (hr.mono (by decide)) (by rfl) (pa_cons (pv 0) (pa_cons (pv 7) pa_nil)))) (pg_name (i := 8) sc.nd rfl (by first | exact Or.inl rfl | exact Or.inr rfl)) (pss_cons (ps_set (i := 9) sc.nd rfl (by first | exact Or.inl rfl | exact Or.inr rfl) (pe_use U__law_behind (hr.mono (by decide)) (by rfl) (pa_cons (pv 7) (pa_cons (pe_ix (ix_seqK (K := K) rfl) (pv 8) pe_int (fun _ _ => rfl)) (pa_cons (pe_ix (ix_seqK (K := K) rfl) (pv 8) pe_int (fun _ _ => rfl)) pa_nil)))))
        (pss_one (ps_if (pt_borD 2 (pt_cmpR (o_notInN (T := T) ⟨rfl, rfl⟩ (hu64 hr)) (pv 9) (pv 2) (by rfl))) (pss_cons (ps_set (i := 10) sc.nd rfl (by first | exact Or.inl rfl | exact Or.inr rfl) (pe_op o_add (pv 5) (pe_ix (ix_seqK (K := K) rfl) (pv 8) pe_int (fun _ _ => rfl))))
        (pss_cons (ps_if (pt_cmp (pc_dnotin (hu1 hr) (pv 10) (pv 3)) (by rfl)) (pss_one (ps_dput (hu1 hr) (pv 3) (pv 10) (pe_lst pa_nil) (by rfl))) pss_nil)
        (pss_one (ps_expr (pe_bm PySem.F.plainAttrs_list PySem.F.slot_list_append PySem.F.type_list_append mt_append (pe_dget (hu1 hr) (pv 3) (pv 10) (fun _ _ => rfl)) (pa_cons (pv 9) pa_nil)))))) pss_nil)))))) pss_nil)))))) pss_nil)))
        (pss_one (ps_ret (pvd 2 (pv 2))))))), fun ds P h => ?_⟩
  · obtain ⟨k, ws, p, rfl, _⟩ := h; rfl
  · obtain ⟨k, ws, p, rfl, p0, p1, p2, p3, p4, p5, h⟩ := h
    refine Left.mk ?_
    simp (maxSteps := 3000000) [argsOf, and_assoc, po__law_open, po__law_behind]
    intro b0
    refine ⟨fun i ρ => ∃ (B W : List (List Int)) (vs : List D) (z : Option (Addr × Int × List D)) (c : Int) (o4 o5 o6 o7 o8 o9 oA : Option Kn), ρ = [some (.v (websD ws)), some (.v (intsT p)), some (.od (B.map intsT) vs), some (.wt z), o4, o5, o6, o7, o8, o9, oA] ∧ Srch ws p B W NoX ∧ WtOk z c W ∧ (z = none ∨ i ≤ B.length), ⟨[], [p], [], _, 0, _, _, _, _, _, _, _, rfl, .start, .inr ⟨b0, rfl⟩, .inr (Nat.zero_le _)⟩, ?_, ?_⟩
    · rintro i d ρ hd ⟨B, W, vs, z, c, o4, o5, o6, o7, o8, o9, oA, rfl, hS, hz, hi⟩
      refine ⟨_, rfl, ?_⟩
      rcases hz with ⟨rfl, rfl⟩ | ⟨b, rfl⟩
      · rw [if_neg (by simp)]
        exact ⟨B, [], vs, none, c, _, o5, o6, o7, o8, o9, oA, rfl, hS, .inl ⟨rfl, rfl⟩, .inl rfl⟩
      · rw [if_pos (by simp)]
        have hi : i ≤ B.length := hi.resolve_left (fun z => nomatch z)
        refine ⟨_, _, ⟨_, rfl⟩, _, _, _, rfl, rfl, _, rfl, _, .inl rfl, fun j ρ => ∃ (B' W' : List (List Int)) (vs' : List D) (z' : Option (Addr × Int × List D)) (o7 o8 o9 oA : Option Kn), ρ = [some (.v (websD ws)), some (.v (intsT p)), some (.od (B'.map intsT) vs'), some (.wt z'), some (.v d), some (.v (.int c)), some (.v (.lst (W.map intsT))), o7, o8, o9, oA] ∧ Srch ws p B' (W.drop j ++ W') NoX ∧ WtOk z' (c + 1) W' ∧ (z' = none ∨ i + 1 ≤ B'.length) ∧ i ≤ B'.length ∧ W'.length ≤ 2400 * B'.length, ⟨B, [], vs, none, o7, o8, o9, oA, rfl, by simpa using hS, .inl ⟨rfl, rfl⟩, .inl rfl, hi, Nat.zero_le _⟩, ?_, ?_⟩
        · rintro j e ρ he ⟨B', W', vs', z', o7, o8, o9, oA, rfl, hS', hz', h1, h2, h3⟩
          obtain ⟨q, hq, rfl⟩ := get_map he
          have jl : j < W.length := (List.getElem?_eq_some_iff.mp hq).1
          have dj : W.drop j = q :: W.drop (j + 1) := by
            rw [List.drop_eq_getElem_cons jl, (List.getElem?_eq_some_iff.mp hq).2]
          rw [dj, List.cons_append] at hS'
          refine ⟨_, _, rfl, _, rfl, _, rfl, _, ⟨_, rfl⟩, by simp, ?_⟩
          by_cases hm : q ∈ B'
          · exact .inl ⟨List.mem_map.mpr ⟨q, hm, rfl⟩, B', W', vs', z', some (.v (intsT q)), o8, o9, oA, rfl, hS'.skip hm, hz', h1, h2, h3⟩
          · refine .inr ⟨fun z => hm (by obtain ⟨q', z1, z2⟩ := List.mem_map.mp z; rw [← intD_inj (D.tup.inj z2)]; exact z1), ?_⟩
            have bf := hS'.few p1 p4
            have qr := hS'.rh q List.mem_cons_self
            have ql : q.length = ws.length := qr.len.trans p4.len
            have hk : putK1 (B'.map intsT) (intsT q) = (B' ++ [q]).map intsT := by
              unfold putK1
              rw [if_neg fun z => hm (by obtain ⟨q', z1, z2⟩ := List.mem_map.mp z; rw [← intD_inj (D.tup.inj z2)]; exact z1)]
              simp
            refine ⟨_, rfl, _, _, rfl, _, rfl, by simp, by rw [List.length_map]; omega, _, rfl, _, rfl, ws, rfl, q, rfl, ql, p3, fun w hw => (p1 w hw).few, fun ms hms msl => ⟨fun l ρ => ∃ (W2 : List (List Int)) (vs2 : List D) (z2 : Option (Addr × Int × List D)) (o8 o9 oA : Option Kn), ρ = [some (.v (websD ws)), some (.v (intsT p)), some (.od ((B' ++ [q]).map intsT) vs2), some (.wt z2), some (.v d), some (.v (.int c)), some (.v (.lst (W.map intsT))), some (.v (intsT q)), o8, o9, oA] ∧ Srch ws p (B' ++ [q]) (W.drop (j + 1) ++ W2) (fun a b => a = q ∧ ∃ m ∈ ms.drop l, b = q.set m.1 m.2.b) ∧ WtOk z2 (c + 1) W2 ∧ W2.length ≤ 2400 * B'.length + l, ⟨W', _, z', o8, o9, oA, by rw [hk]; rfl, hS'.new hm fun b hb => ?_, hz', Nat.le_add_right_of_le h3⟩, ?_, ?_⟩⟩
            · obtain ⟨⟨u, r⟩, ho, e⟩ := hb
              exact ⟨rfl, (u, r), (hms u r).mpr ho, e⟩
            · rintro l e ρ u r hmr rfl ⟨W2, vs2, z2, o8, o9, oA, rfl, hS2, hz2, h4⟩
              have ho := (hms u r).mp (mem_get hmr)
              have ul : u < q.length := by
                obtain ⟨_, _, _, g3, _⟩ := id ho
                exact (List.getElem?_eq_some_iff.mp g3).1
              have dl : ms.drop l = (u, r) :: ms.drop (l + 1) := by
                have ll : l < ms.length := (List.getElem?_eq_some_iff.mp hmr).1
                rw [List.drop_eq_getElem_cons ll, (List.getElem?_eq_some_iff.mp hmr).2]
              have ll : l < ms.length := (List.getElem?_eq_some_iff.mp hmr).1
              have hr1 : Rch ws p (q.set u r.b) := qr.tail ⟨(u, r), ho, rfl⟩
              have rc : r.c = 1 := by
                obtain ⟨w, g1, g2, _⟩ := id ho
                exact p2 w (mem_get g1) r g2
              refine ⟨_, rfl, _, rfl, _, .inr rfl, 0, rfl, _, rfl, _, rfl, _, .inr rfl, 2, rfl, _, rfl, q, rfl, u, rfl, r.b, rfl, ul, ?_⟩
              refine ⟨_, _, rfl, _, rfl, _, rfl, _, ⟨_, rfl⟩, by rw [key_tup, Bool.and_eq_true]; exact ⟨imA_map (fun x => rfl) _, fitA_map (fun x => by simp) _⟩, ?_⟩
              have stp : ∀ V : List (List Int), (q.set u r.b ∈ B' ++ [q] ∨ q.set u r.b ∈ V) → ∀ a b : List Int, (a = q ∧ ∃ m ∈ ms.drop l, b = q.set m.1 m.2.b) → (a = q ∧ ∃ m ∈ ms.drop (l + 1), b = q.set m.1 m.2.b) ∨ b ∈ B' ++ [q] ∨ b ∈ V := fun V hV a b z => by
                obtain ⟨z1, m, z2, z3⟩ := z
                rw [dl] at z2
                rcases List.mem_cons.mp z2 with rfl | z2
                · rw [z3]; exact .inr hV
                · exact .inl ⟨z1, m, z2, z3⟩
              by_cases hb : q.set u r.b ∈ B' ++ [q]
              · exact .inl ⟨List.mem_map.mpr ⟨_, hb, rfl⟩, W2, vs2, z2, some (.v (mvD (u, r))), some (.v (intsT (q.set u r.b))), oA, rfl, hS2.step (stp _ (.inl hb)), hz2, by omega⟩
              · refine .inr ⟨fun z => hb (by obtain ⟨q', z1, z2⟩ := List.mem_map.mp z; rw [← intD_inj (D.tup.inj z2)]; exact z1), _, rfl, _, rfl, _, .inr rfl, 4, rfl, _, rfl, c, rfl, r.c, rfl, z2, rfl, _, rfl, ?_⟩
                have hS3 := (hS2.push hr1).step (stp _ (.inr (by simp)))
                rw [List.append_assoc] at hS3
                rcases hz2 with ⟨rfl, rfl⟩ | ⟨b2, rfl⟩
                · rw [if_pos rfl]
                  refine ⟨rfl, _, rfl, fun b => ⟨b, _, _, rfl, rfl, _, rfl, by decide, _, vs2, some (b, c + r.c, [intsT (q.set u r.b)]), some (.v (mvD (u, r))), some (.v (intsT (q.set u r.b))), some (.v (.int (c + r.c))), rfl, hS3, .inr ⟨b, by rw [rc]; rfl⟩, by simp; omega⟩⟩
                · rw [if_neg (by simp [rc])]
                  refine ⟨b2, c + 1, _, rfl, by rw [rc]; rfl, _, rfl, by rw [List.length_map]; omega, _, vs2, some (b2, c + 1, (W2 ++ [q.set u r.b]).map intsT), some (.v (mvD (u, r))), some (.v (intsT (q.set u r.b))), some (.v (.int (c + r.c))), by rw [List.map_append (l₁ := W2)]; rfl, hS3, .inr ⟨b2, rfl⟩, by simp; omega⟩
            · rintro ρ ⟨W2, vs2, z2, o8, o9, oA, rfl, hS2, hz2, h4⟩
              refine ⟨B' ++ [q], W2, vs2, z2, some (.v (intsT q)), o8, o9, oA, rfl, hS2.step fun a b z => ?_, hz2, .inr (by simp; omega), by simp; omega, by simp; omega⟩
              obtain ⟨_, m, z, _⟩ := z
              rw [List.drop_length] at z
              exact nomatch z
        · rintro ρ ⟨B', W', vs', z', o7, o8, o9, oA, rfl, hS', hz', h1, h2, h3⟩
          rw [List.length_map, List.drop_length, List.nil_append] at hS'
          exact ⟨B', W', vs', z', c + 1, _, _, _, o7, o8, o9, oA, rfl, hS', hz', h1⟩
    · rintro ρ ⟨B, W, vs, z, c, o4, o5, o6, o7, o8, o9, oA, rfl, hS, hz, hi⟩
      rw [rangeD_len] at hi
      have few := hS.few p1 p4
      rcases hi with rfl | hi
      · rcases hz with ⟨_, rfl⟩ | ⟨b, z⟩
        · exact ⟨_, _, rfl, h B vs hS.nd hS.fin⟩
        · cases z
      · omega
end
end
end DL
namespace DL
open PySem L2 PyProof.Rows
noncomputable section
section
variable {T : Tx} {K : PySem.W.Frag} {mg : Str → Option Value} {base : Heap} {f f0 f1 f2 f3 f4 f5 f6 f7 : Addr} {fd fd0 fd1 fd2 fd3 fd4 fd5 fd6 fd7 : FuncData} [ci : CI T K] [n1 : NoF "turned"] [n2 : NoF "renamed"] [n3 : NoF "guards"]
def po__law_leads : List D → (D → Prop) → Prop := fun ds P => ∃ (k : Int) (ws : List (List Ar)) (p : List Int), ds = [websD ws, intsT p] ∧ (3 ≤ k ∧ k ≤ 5) ∧ WsOk2 k ws ∧ ws.length ≤ 4 ∧ PosOk k ws.length p ∧ k.toNat ^ ws.length ≤ 100 ∧ (∀ (B : List (List Int)) (vs : List D), B.Nodup → (∀ q, q ∈ B ↔ Rch ws p q) → P (.dct (B.map intsT) vs))
theorem sc__law_leads : FnScope ["_law_webs_here", "_law_start", "_law_ones", "_law_web_here", "_law_arrow"] ["_law_webs_here", "_law_start"] (defScope s__law_leads) := ⟨rfl, rfl, rfl, by decide +kernel, rfl, by decide +kernel, by decide +kernel⟩
theorem ok__law_leads (F : FnP K "_law_leads" "_law_leads" s__law_leads f fd) (Z : Free mg) (U__law_costs : Use T.prog T.w K mg base "_law_costs" 2 ["_law_webs_here", "_law_start"] (spD T po__law_costs) f0 fd0) : FnOk T.prog T.w K mg base CX0 3 f fd ["_law_webs_here", "_law_start"] (spD T po__law_leads) := by
  have sc := sc__law_leads
  refine okD (T := T) F sc (fun ds P h => ?_) fun cdv A outer s H E hr => ⟨_, (pss_cons (ps_own (ps_set (i := 2) sc.nd rfl (by first | exact Or.inl rfl | exact Or.inr rfl) (pe_lst pa_nil)))
        (pss_cons (ps_for PassesOwn.never rfl (pi_seqK (K := K) rfl (pv 0)) (pg_name (i := 3) sc.nd rfl (by first | exact Or.inl rfl | exact Or.inr rfl)) (pss_one (ps_expr (pe_bm PySem.F.plainAttrs_list PySem.F.slot_list_append PySem.F.type_list_append mt_append (pv 2) (pa_cons (pe_lc (own := [("_law_arrow", 4)]) rfl sc.nd (pi_seqK (K := K) rfl (pv 3)) (blkOk_by (N := ["_law_webs_here", "_law_start", "_law_ones", "_law_web_here", "_law_arrow"]) (sc := defScope s__law_leads) (by decide +kernel)) (fun _ _ _ _ _ => (pg_name (i := 4) sc.nd rfl (by first | exact Or.inl rfl | exact Or.inr rfl))) (fun _ _ _ _ _ => pts_nil) (fun _ _ _ _ _ => (pe_tup (pa_cons (pe_ix (ix_seqK (K := K) rfl) (pv 4) pe_int (fun _ _ => rfl)) (pa_cons (pe_ix (ix_seqK (K := K) rfl) (pv 4) pe_int (fun _ _ => rfl)) (pa_cons (pe_ix (ix_seqK (K := K) rfl) (pv 4) pe_int (fun _ _ => rfl)) (pa_cons pe_int pa_nil))))))) pa_nil)))))
        (pss_one (ps_frz 2 (ps_ret (pe_use U__law_costs (hr.mono (by decide)) (by rfl) (pa_cons (pv 2) (pa_cons (pv 1) pa_nil)))))))), fun ds P h => ?_⟩
  · obtain ⟨k, ws, p, rfl, _⟩ := h; rfl
  · obtain ⟨k, ws, p, rfl, p0, p1, p2, p3, p4, h⟩ := h
    refine Left.mk ?_
    simp (maxSteps := 3000000) [argsOf, and_assoc, po__law_costs]
    refine ⟨fun i ρ => ∃ (o3 o4 : Option Kn), ρ = [some (.v (websD ws)), some (.v (intsT p)), some (.o ((ws.take i).map fun w => D.lst (w.map fun r => r.one.d))), o3, o4], ⟨_, _, rfl⟩, ?_, ?_⟩
    · rintro i d ρ w hw rfl ⟨o3, o4, rfl⟩
      have few := (p1 w (mem_get hw)).few
      refine ⟨_, rfl, _, rfl, _, .inl rfl, by rw [List.length_map]; omega, fun j acc => acc = (w.take j).map fun r => r.one.d, rfl, ?_, ?_⟩
      · rintro j e acc he rfl
        obtain ⟨r, hr', rfl⟩ := get_map he
        refine ⟨_, rfl, _, .inr rfl, 0, rfl, _, rfl, _, rfl, _, .inr rfl, 1, rfl, _, rfl, _, rfl, _, .inr rfl, 2, rfl, _, rfl, ?_⟩
        show _ = _
        rw [take_next hr', List.map_append]
        rfl
      · rintro acc rfl
        refine ⟨by rw [List.length_map, List.length_take]; omega, some (.v (.lst (w.map Ar.d))), o4, ?_⟩
        rw [List.length_map, List.take_length, take_next hw, List.map_append]
        rfl
    · rintro ρ ⟨o3, o4, rfl⟩
      rw [List.take_length]
      refine ⟨_, rfl, _, rfl, _, rfl, k, ws.map fun w => w.map Ar.one, ?_, p, rfl, p0.1, p0.2, one_ok p1, ?_, by rw [List.length_map]; exact p2, by rw [List.length_map]; exact p3, by rw [List.length_map]; exact p4, fun B vs hB hq => h B vs hB fun q => (hq q).trans rch_one⟩
      · show D.lst _ = D.lst _
        rw [List.map_map]
        congr 1
        refine List.map_congr_left fun w _ => ?_
        show D.lst _ = D.lst _
        rw [List.map_map]
        rfl
      · intro v hv r hr'
        obtain ⟨w, _, rfl⟩ := List.mem_map.mp hv
        obtain ⟨s, _, rfl⟩ := List.mem_map.mp hr'
        rfl
theorem sortOk_tups {L : List (List Int)} (h : (∀ q ∈ L, q ≠ []) ∨ L.length ≤ 1) : SortOk (L.map intsT) := by
  refine ⟨fun d hd e he => ?_, fun d hd => ?_, ?_⟩
  · obtain ⟨a, _, rfl⟩ := List.mem_map.mp hd
    obtain ⟨b, _, rfl⟩ := List.mem_map.mp he
    exact alike_tupI a b
  · obtain ⟨a, _, rfl⟩ := List.mem_map.mp hd
    simp
  · rcases h with h | h
    · refine .inl fun d hd => ?_
      obtain ⟨a, ha, rfl⟩ := List.mem_map.mp hd
      cases a with
      | nil => exact absurd rfl (h _ ha)
      | cons x r => exact ⟨_, _, rfl⟩
    · exact .inr (.inr (by rw [List.length_map]; exact h))
def po__law_room : List D → (D → Prop) → Prop := fun ds P => ∃ (k : Int) (ws : List (List Ar)) (p : List Int), ds = [websD ws, intsT p] ∧ (3 ≤ k ∧ k ≤ 5) ∧ WsOk2 k ws ∧ ws.length ≤ 4 ∧ PosOk k ws.length p ∧ k.toNat ^ ws.length ≤ 100 ∧ (∀ Ss, SetsOk [] ws p Ss → P (.lst ((boxR Ss).map intsT)))
theorem sc__law_room : FnScope ["_law_webs_here", "_law_position_here", "_law_ahead", "_law_turned", "_law_web_here", "_law_back", "_law_row", "_law_arrow"] ["_law_webs_here", "_law_position_here"] (defScope s__law_room) := ⟨rfl, rfl, rfl, by decide +kernel, rfl, by decide +kernel, by decide +kernel⟩
theorem ok__law_room (F : FnP K "_law_room" "_law_room" s__law_room f fd) (Z : Free mg) (U__law_leads : Use T.prog T.w K mg base "_law_leads" 3 ["_law_webs_here", "_law_start"] (spD T po__law_leads) f0 fd0) : FnOk T.prog T.w K mg base CX0 4 f fd ["_law_webs_here", "_law_position_here"] (spD T po__law_room) := by
  have sc := sc__law_room
  refine okD (T := T) F sc (fun ds P h => ?_) fun cdv A outer s H E hr => ⟨_, (pss_cons (ps_set (i := 2) sc.nd rfl (by first | exact Or.inl rfl | exact Or.inr rfl) (pe_use U__law_leads (hr.mono (by decide)) (by rfl) (pa_cons (pv 0) (pa_cons (pv 1) pa_nil))))
        (pss_cons (ps_own (ps_set (i := 3) sc.nd rfl (by first | exact Or.inl rfl | exact Or.inr rfl) (pe_lst pa_nil)))
        (pss_cons (ps_for PassesOwn.never rfl (pi_seqK (K := K) rfl (pv 0)) (pg_name (i := 4) sc.nd rfl (by first | exact Or.inl rfl | exact Or.inr rfl)) (pss_one (ps_expr (pe_bm PySem.F.plainAttrs_list PySem.F.slot_list_append PySem.F.type_list_append mt_append (pv 3) (pa_cons (pe_lc (own := [("_law_arrow", 7)]) rfl sc.nd (pi_seqK (K := K) rfl (pv 4)) (blkOk_by (N := ["_law_webs_here", "_law_position_here", "_law_ahead", "_law_turned", "_law_web_here", "_law_back", "_law_row", "_law_arrow"]) (sc := defScope s__law_room) (by decide +kernel)) (fun _ _ _ _ _ => (pg_name (i := 7) sc.nd rfl (by first | exact Or.inl rfl | exact Or.inr rfl))) (fun _ _ _ _ _ => pts_nil) (fun _ _ _ _ _ => (pe_tup (pa_cons (pe_ix (ix_seqK (K := K) rfl) (pv 7) pe_int (fun _ _ => rfl)) (pa_cons (pe_ix (ix_seqK (K := K) rfl) (pv 7) pe_int (fun _ _ => rfl)) (pa_cons (pe_ix (ix_seqK (K := K) rfl) (pv 7) pe_int (fun _ _ => rfl)) (pa_cons (pe_ix (ix_seqK (K := K) rfl) (pv 7) pe_int (fun _ _ => rfl)) pa_nil))))))) pa_nil)))))
        (pss_cons (ps_frz 3 (ps_set (i := 5) sc.nd rfl (by first | exact Or.inl rfl | exact Or.inr rfl) (pe_use U__law_leads (hr.mono (by decide)) (by rfl) (pa_cons (pv 3) (pa_cons (pv 1) pa_nil)))))
        (pss_one (ps_ret (pe_callB (c_sort2 (T := T) (K := K) rfl ⟨rfl, rfl⟩ rfl (hu65 hr)) (by rfl) Z.sorted bt_sorted (pa_cons (pe_lc (own := [("_law_row", 6)]) rfl sc.nd (pi_seqK (K := K) rfl (pe_callTy (c_listN (T := T) rfl) (by rfl) Z.list bt_list (pa_cons (pv 2) pa_nil))) (blkOk_by (N := ["_law_webs_here", "_law_position_here", "_law_ahead", "_law_turned", "_law_web_here", "_law_back", "_law_row", "_law_arrow"]) (sc := defScope s__law_room) (by decide +kernel)) (fun _ _ _ _ _ => (pg_name (i := 6) sc.nd rfl (by first | exact Or.inl rfl | exact Or.inr rfl))) (fun _ _ _ _ _ => (pts_one (pt_cmpR (o_inN (T := T) ⟨rfl, rfl⟩ (hu64 hr)) (pv 6) (pv 5) (by rfl)))) (fun _ _ _ _ _ => (pv 6))) pa_nil)))))))), fun ds P h => ?_⟩
  · obtain ⟨k, ws, p, rfl, _⟩ := h; rfl
  · obtain ⟨k, ws, p, rfl, p0, p1, p2, p3, p4, h⟩ := h
    refine Left.mk ?_
    simp (maxSteps := 3000000) [argsOf, and_assoc, po__law_leads]
    refine ⟨k, ws, rfl, p, rfl, p0.1, p0.2, p1, p2, p3, p4, fun B vs hB hq => ⟨fun i ρ => ∃ (o4 o5 o6 o7 : Option Kn), ρ = [some (.v (websD ws)), some (.v (intsT p)), some (.v (.dct (B.map intsT) vs)), some (.o ((ws.take i).map fun w => D.lst (w.map fun r => r.turn.d))), o4, o5, o6, o7], ⟨_, _, _, _, rfl⟩, ?_, ?_⟩⟩
    · rintro i d ρ w hw rfl ⟨o4, o5, o6, o7, rfl⟩
      have few := (p1 w (mem_get hw)).few
      refine ⟨_, rfl, _, rfl, _, .inl rfl, by rw [List.length_map]; omega, fun j acc => acc = (w.take j).map fun r => r.turn.d, rfl, ?_, ?_⟩
      · rintro j e acc he rfl
        obtain ⟨r, hr', rfl⟩ := get_map he
        refine ⟨_, rfl, _, .inr rfl, 1, rfl, _, rfl, _, rfl, _, .inr rfl, 0, rfl, _, rfl, _, rfl, _, .inr rfl, 2, rfl, _, rfl, _, rfl, _, .inr rfl, 3, rfl, _, rfl, ?_⟩
        show _ = _
        rw [take_next hr', List.map_append]
        rfl
      · rintro acc rfl
        refine ⟨by rw [List.length_map, List.length_take]; omega, some (.v (.lst (w.map Ar.d))), o5, o6, o7, ?_⟩
        rw [List.length_map, List.take_length, take_next hw, List.map_append]
        rfl
    · rintro ρ ⟨o4, o5, o6, o7, rfl⟩
      rw [List.take_length]
      have bp : ∀ q ∈ B, PosOk k ws.length q := fun q hb => ((hq q).mp hb).pos p1 p3
      have bf := cube_few hB bp
      refine ⟨_, rfl, _, rfl, _, rfl, k, ws.map fun w => w.map Ar.turn, ?_, p, rfl, p0.1, p0.2, turn_ok2 p1, by rw [List.length_map]; exact p2, by rw [List.length_map]; exact p3, by rw [List.length_map]; exact p4, fun C us hC hc => ⟨_, rfl, _, ⟨_, rfl⟩, by rw [List.length_map]; omega, fun i acc => acc = ((B.take i).filter fun q => decide (q ∈ C)).map intsT, rfl, ?_, ?_⟩⟩
      · show D.lst _ = D.lst _
        rw [List.map_map]
        congr 1
        refine List.map_congr_left fun w _ => ?_
        show D.lst _ = D.lst _
        rw [List.map_map]
        rfl
      · rintro i e acc he rfl
        obtain ⟨q, hq', rfl⟩ := get_map he
        refine ⟨_, rfl, _, rfl, _, ⟨_, rfl⟩, by rw [key_tup, Bool.and_eq_true]; exact ⟨imA_map (fun x => rfl) _, fitA_map (fun x => by simp) _⟩, ?_⟩
        by_cases hm : q ∈ C
        · rw [if_pos (List.mem_map.mpr ⟨q, hm, rfl⟩)]
          refine ⟨_, rfl, ?_⟩
          show _ = _
          rw [take_next hq', List.filter_append, List.filter_cons_of_pos (by simpa using hm)]
          simp
        · rw [if_neg fun z => hm (by obtain ⟨q', z1, z2⟩ := List.mem_map.mp z; rw [← intD_inj (D.tup.inj z2)]; exact z1)]
          show _ = _
          rw [take_next hq', List.filter_append, List.filter_cons_of_neg (by simpa using hm)]
          simp
      · rintro acc rfl
        rw [List.length_map, List.take_length]
        obtain ⟨Ss, hSs⟩ := SetsOk.ex ws [] p p3.len
        refine ⟨sortOk_tups ?_, fun fs pm pw => ?_⟩
        · by_cases hn : ws.length = 0
          · refine .inr (Nat.le_trans (List.length_filter_le _ _) ?_)
            rw [hn] at bf
            exact bf
          · refine .inl fun q hq' e => hn ?_
            have := (bp q (List.mem_filter.mp hq').1).len
            rw [e] at this
            exact this.symm
        · rw [perm_tups pm pw (boxR_up _ Ss rfl hSs.up).1 (hB.filter _) fun q => ?_]
          · exact h Ss hSs
          · rw [List.mem_filter, decide_eq_true_eq, hq, hc, rch_turn, mem_boxR]
            exact (room_box _ ws p Ss rfl hSs q).symm
end
end
end DL
/-! M14: what is shown -/
namespace DL
open PySem L2 PyProof.Rows
noncomputable section
theorem join_few (sep : Str) (c : Nat) : ∀ ts : List Str, (∀ t ∈ ts, t.length ≤ c) → (Str.join sep ts).length ≤ ts.length * (c + sep.length)
  | [], _ => Nat.zero_le _
  | [x], h => by
    show x.length ≤ _
    have := h x (by simp)
    simp
    omega
  | x :: y :: r, h => by
    show (x ++ sep ++ Str.join sep (y :: r)).length ≤ _
    rw [strLen_append, strLen_append]
    have h1 := join_few sep c (y :: r) fun t ht => h t (List.mem_cons_of_mem _ ht)
    have h2 := h x (by simp)
    rw [List.length_cons (a := x), Nat.succ_mul]
    omega
theorem tupText_few (c : Nat) (ts : List Str) (h : ∀ t ∈ ts, t.length ≤ c) : (tupleText ts).length ≤ ts.length * (c + 2) + 3 := by
  unfold tupleText
  rw [strLen_append, strLen_append]
  have h1 := join_few ", " c ts h
  have e1 : (("(" : Str)).length = 1 := by decide +kernel
  have e2 : ((", " : Str)).length = 2 := by decide +kernel
  have e3 : ((if ts.length == 1 then ",)" else ")" : String) : Str).length ≤ 2 := by
    split <;> decide +kernel
  rw [e2] at h1
  omega
theorem shownAll_map (ds : List D) : PyData.shownAll (D.pyA ds) = ds.map fun d => d.py.shown := by
  induction ds with
  | nil => simp [D.pyA, PyData.shownAll]
  | cons d ds ih => simp [D.pyA, PyData.shownAll, ih]
theorem showAll_map (ds : List D) : PyData.showableAll (D.pyA ds) = ds.all fun d => d.py.showable := by
  induction ds with
  | nil => simp [D.pyA, PyData.showableAll]
  | cons d ds ih => simp [D.pyA, PyData.showableAll, ih]
theorem dictAll_map (ds : List D) : PyData.hasDictAll (D.pyA ds) = ds.any fun d => d.py.hasDict := by
  induction ds with
  | nil => simp [D.pyA, PyData.hasDictAll]
  | cons d ds ih => simp [D.pyA, PyData.hasDictAll, ih]
theorem digit_len {i : Int} (h : 0 ≤ i ∧ i < 5) : (D.int i).py.shown.length = 1 ∧ (D.int i).py.showable = true := by
  have : i = 0 ∨ i = 1 ∨ i = 2 ∨ i = 3 ∨ i = 4 := by omega
  rcases this with rfl | rfl | rfl | rfl | rfl <;> exact ⟨by decide +kernel, by decide +kernel⟩
theorem ints_show {S : List Int} (h5 : S.length ≤ 5) (h : ∀ y ∈ S, 0 ≤ y ∧ y < 5) : (intsT S).py.shown.length ≤ 18 ∧ (intsT S).py.showable = true ∧ (intsT S).py.hasDict = false := by
  refine ⟨?_, ?_, ?_⟩
  · simp only [D.py, PyData.shown, shownAll_map]
    have := tupText_few 1 ((S.map D.int).map fun d => d.py.shown) fun t ht => by
      obtain ⟨d, hd, rfl⟩ := List.mem_map.mp ht
      obtain ⟨y, hy, rfl⟩ := List.mem_map.mp hd
      rw [(digit_len (h y hy)).1]
      exact Nat.le_refl 1
    rw [List.length_map, List.length_map] at this
    omega
  · simp only [D.py, PyData.showable, showAll_map, List.all_eq_true]
    intro d hd
    obtain ⟨y, hy, rfl⟩ := List.mem_map.mp hd
    exact (digit_len (h y hy)).2
  · simp only [D.py, PyData.hasDict, dictAll_map, List.any_eq_false]
    intro d hd
    obtain ⟨y, hy, rfl⟩ := List.mem_map.mp hd
    simp [D.py, PyData.hasDict]
theorem shows_sets {Ss : List (List Int)} (hn : Ss.length ≤ 40) (h : ∀ S ∈ Ss, S.length ≤ 5 ∧ ∀ y ∈ S, 0 ≤ y ∧ y < 5) : Shows (.tup (Ss.map intsT)) := by
  refine ⟨⟨_, rfl⟩, ?_, ?_, ?_, ?_⟩
  · simp only [D.fit, Bool.and_eq_true, decide_eq_true_eq]
    exact ⟨by decide, fitA_map (fun g => by simp) Ss⟩
  · simp only [D.py, PyData.showable, showAll_map, List.all_eq_true]
    intro d hd
    obtain ⟨S, hS, rfl⟩ := List.mem_map.mp hd
    exact (ints_show (h S hS).1 (h S hS).2).2.1
  · simp only [D.py, PyData.hasDict, dictAll_map, List.any_eq_false]
    intro d hd
    obtain ⟨S, hS, rfl⟩ := List.mem_map.mp hd
    have := (ints_show (h S hS).1 (h S hS).2).2.2
    simp only [D.py, PyData.hasDict] at this ⊢
    rw [this]
    decide
  · simp only [D.py, PyData.shown, shownAll_map]
    have := tupText_few 18 ((Ss.map intsT).map fun d => d.py.shown) fun t ht => by
      obtain ⟨d, hd, rfl⟩ := List.mem_map.mp ht
      obtain ⟨S, hS, rfl⟩ := List.mem_map.mp hd
      exact (ints_show (h S hS).1 (h S hS).2).1
    rw [List.length_map, List.length_map] at this
    omega
theorem prod_le : ∀ (n : Nat) (Ss : List (List Int)), Ss.length = n → (∀ S ∈ Ss, S.length ≤ 5) → 0 ≤ prod Ss ∧ prod Ss ≤ 5 ^ n := fun n => by
  induction n with
  | zero =>
    intro Ss hn _
    have e := List.eq_nil_of_length_eq_zero hn
    subst e
    exact ⟨by decide, by decide⟩
  | succ n ih =>
    intro Ss hn hS
    rcases List.eq_nil_or_concat Ss with rfl | ⟨Ss', S, rfl⟩
    · simp at hn
    rw [List.concat_eq_append] at *
    obtain ⟨h1, h2⟩ := ih Ss' (by simpa using hn) fun R hR => hS R (List.mem_append_left _ hR)
    have h5 := hS S (by simp)
    rw [prod_snoc, Int.pow_succ]
    have h6 : (S.length : Int) ≤ 5 := by omega
    exact ⟨Int.mul_nonneg h1 (by omega), Int.mul_le_mul h2 h6 (by omega) (Int.le_trans h1 h2)⟩
theorem prod_log {Ss : List (List Int)} (hn : Ss.length ≤ 40) (h : ∀ S ∈ Ss, S.length ≤ 5) : (prod Ss).natAbs.log2 < 1920 := by
  obtain ⟨h1, h2⟩ := prod_le _ Ss rfl h
  have h3 : (5 : Int) ^ Ss.length ≤ 5 ^ 40 := by
    have := Nat.pow_le_pow_right (n := 5) (by decide) hn
    exact_mod_cast this
  have h4 : (5 : Int) ^ 40 < 2 ^ 100 := by decide
  have h5 : (prod Ss).natAbs < 2 ^ 100 := by
    have : ((2 ^ 100 : Nat) : Int) = (2 : Int) ^ 100 := by decide
    omega
  by_cases z : (prod Ss).natAbs = 0
  · rw [z]; decide
  · have := (Nat.log2_lt z).mpr h5
    omega
end
end DL
namespace DL
open PySem L2 PyProof.Rows
noncomputable section
section
variable {T : Tx} {K : PySem.W.Frag} {mg : Str → Option Value} {base : Heap} {f f0 f1 f2 f3 f4 f5 f6 f7 : Addr} {fd fd0 fd1 fd2 fd3 fd4 fd5 fd6 fd7 : FuncData} [ci : CI T K] [n1 : NoF "turned"] [n2 : NoF "renamed"] [n3 : NoF "guards"]
def po__law_draws : List Int → (D → Prop) → Prop := fun _ P => ∀ d, isDr d → P d
theorem sc__law_draws : FnScope ["_law_script", "_law_numbers", "_law_at", "_law_cell", "_law_flip", "_law_turn", "_law_seed"] ["_law_script"] (defScope s__law_draws) := ⟨rfl, rfl, rfl, by decide +kernel, rfl, by decide +kernel, by decide +kernel⟩
theorem ok__law_draws (F : FnP K "_law_draws" "_law_draws" s__law_draws f fd) (Z : Free mg) : FnOk T.prog T.w K mg base CX0 1 f fd ["_law_script"] (spS T K po__law_draws) := by
  have sc := sc__law_draws
  refine okS F sc rfl fun cdv A outer s H E hr => ⟨_, (pss_cons (ps_own (ps_set (i := 1) sc.nd rfl (by first | exact Or.inl rfl | exact Or.inr rfl) (pe_lst pa_nil)))
        (pss_cons (ps_for PassesOwn.never rfl (pi_range1 (by rfl) Z.range (pa_cons (pe_callB (c_min2 rfl) (by rfl) Z.min bt_min (pa_cons (pe_callB (c_lenS2 (K := K) rfl) (by rfl) Z.len bt_len (pa_cons (pv 0) pa_nil)) (pa_cons pe_int pa_nil))) pa_nil)) (pg_name (i := 2) sc.nd rfl (by first | exact Or.inl rfl | exact Or.inr rfl)) (pss_cons (ps_set (i := 3) sc.nd rfl (by first | exact Or.inl rfl | exact Or.inr rfl) (pe_callTy c_int (by rfl) Z.int bt_int (pa_cons (pe_ix (ix_scr2 (K := K) rfl) (pv 0) (pv 2) (fun _ _ => rfl)) pa_nil)))
        (pss_cons (ps_set (i := 4) sc.nd rfl (by first | exact Or.inl rfl | exact Or.inr rfl) pe_int)
        (pss_consJ (ps_if (pt_cmpR o_lt (pv 3) pe_int (nomark _)) (pss_cons (ps_set (i := 3) sc.nd rfl (by first | exact Or.inl rfl | exact Or.inr rfl) (pe_un u_neg (pv 3)))
        (pss_one (ps_set (i := 4) sc.nd rfl (by first | exact Or.inl rfl | exact Or.inr rfl) pe_int))) pss_nil)
        (pss_one (ps_if (pt_cmpR o_ge (pv 3) (pe_op o_pow pe_int pe_int) (nomark _)) (pss_one (ps_for PassesOwn.never rfl (pi_range1 (by rfl) Z.range (pa_cons pe_int pa_nil)) (pg_name (i := 5) sc.nd rfl (by first | exact Or.inl rfl | exact Or.inr rfl)) (pss_one (ps_if (pt_cmpR o_gt (pv 3) pe_int (nomark _)) (pss_cons (ps_expr (pe_bm PySem.F.plainAttrs_list PySem.F.slot_list_append PySem.F.type_list_append mt_append (pv 1) (pa_cons (pe_op o_mod (pe_callTy c_int (by rfl) Z.int bt_int (pa_cons (pv 3) pa_nil)) pe_int) pa_nil)))
        (pss_one (ps_set (i := 3) sc.nd rfl (by first | exact Or.inl rfl | exact Or.inr rfl) (pe_op o_div (pv 3) pe_int)))) pss_nil)))) (pss_cons (ps_set (i := 6) sc.nd rfl (by first | exact Or.inl rfl | exact Or.inr rfl) (pe_op o_mod (pe_callTy c_int (by rfl) Z.int bt_int (pa_cons (pe_op o_add (pe_op o_add (pe_op o_add (pe_op o_mul (pv 3) pe_int) (pe_op o_mul (pv 4) pe_int)) (pe_op o_mul (pv 2) pe_int)) pe_int) pa_nil)) pe_int))
        (pss_one (ps_for PassesOwn.never rfl (pi_range1 (by rfl) Z.range (pa_cons pe_int pa_nil)) (pg_name (i := 5) sc.nd rfl (by first | exact Or.inl rfl | exact Or.inr rfl)) (pss_cons (ps_set (i := 6) sc.nd rfl (by first | exact Or.inl rfl | exact Or.inr rfl) (pe_op o_mod (pe_callTy c_int (by rfl) Z.int bt_int (pa_cons (pe_op o_add (pe_op o_add (pe_op o_add (pe_op o_mul (pv 6) pe_int) (pe_op o_div (pv 6) pe_int)) (pe_op o_mul (pv 5) pe_int)) pe_int) pa_nil)) pe_int))
        (pss_one (ps_expr (pe_bm PySem.F.plainAttrs_list PySem.F.slot_list_append PySem.F.type_list_append mt_append (pv 1) (pa_cons (pe_op o_div (pv 6) pe_int) pa_nil))))))))))))))
        (pss_one (ps_frz 1 (ps_ret (pe_lst (pa_cons pe_int (pa_cons (pv 1) pa_nil)))))))), fun ns P h => ?_⟩
  refine Left.mk ?_
  simp (maxSteps := 3000000) [and_assoc]
  obtain ⟨m, hm, hm1, hm2⟩ : ∃ m : Nat, (if (63 : Int) < ns.length then 63 else (ns.length : Int)) = m ∧ m ≤ 63 ∧ m ≤ ns.length := by
    split
    · exact ⟨63, rfl, Nat.le_refl _, by omega⟩
    · exact ⟨ns.length, rfl, by omega, Nat.le_refl _⟩
  rw [hm]
  refine ⟨by omega, by omega, fun i ρ => ∃ (L : List Int) (o2 o3 o4 o5 o6 : Option Kn), ρ = [some (.scr K ns), some (.o (L.map .int)), o2, o3, o4, o5, o6] ∧ L.length ≤ 40 * i, ⟨[], _, _, _, _, _, rfl, Nat.zero_le _⟩, ?_, ?_⟩
  · rintro i d ρ hd ⟨L, o2, o3, o4, o5, o6, rfl, hL⟩
    obtain ⟨hi, rfl⟩ := rangeD_some hd
    have hi : i < m := by omega
    obtain ⟨x, hx⟩ : ∃ x, ns[i]? = some x := ⟨ns[i], List.getElem?_eq_getElem (by omega)⟩
    refine ⟨ns, rfl, _, rfl, i, rfl, x, hx, fun ρ => ∃ (c fl : Int), ρ = [some (.scr K ns), some (.o (L.map .int)), some (.v (.int i)), some (.v (.int c)), some (.v (.int fl)), o5, o6], ?_, ?_⟩
    · refine ⟨_, rfl, x, rfl, ?_⟩
      split
      · exact ⟨_, rfl, x, rfl, -x, 1, rfl⟩
      · exact ⟨x, 0, rfl⟩
    · rintro ρ ⟨c, fl, rfl⟩
      refine ⟨_, rfl, by unfold CPow; decide, c, rfl, ?_⟩
      split
      · refine ⟨fun j ρ => ∃ (L : List Int) (c : Int) (o5 : Option Kn), ρ = [some (.scr K ns), some (.o (L.map .int)), some (.v (.int i)), some (.v (.int c)), some (.v (.int fl)), o5, o6] ∧ L.length ≤ 40 * i + j, ⟨L, c, o5, rfl, hL⟩, ?_, ?_⟩
        · rintro j d ρ hd ⟨L, c, o5, rfl, hL⟩
          obtain ⟨hj, _⟩ := rangeD_some hd
          refine ⟨_, rfl, c, rfl, ?_⟩
          split
          · exact ⟨_, rfl, _, rfl, c, rfl, by rw [List.length_map]; omega, _, rfl, c, rfl, by unfold CDiv; decide, L ++ [c % 36], c / 36, some (.v d), by simp, by simp; omega⟩
          · exact ⟨L, c, _, rfl, by omega⟩
        · rintro ρ ⟨L, c, o5, rfl, hL⟩
          rw [rangeD_len] at hL
          exact ⟨L, _, _, _, _, _, rfl, by omega⟩
      · refine ⟨_, rfl, c, rfl, .inr (by decide), _, rfl, fl, rfl, .inr (by decide), _, rfl, i, rfl, .inr (by decide), fun j ρ => ∃ (L : List Int) (sd : Int) (o5 : Option Kn), ρ = [some (.scr K ns), some (.o (L.map .int)), some (.v (.int i)), some (.v (.int c)), some (.v (.int fl)), o5, some (.v (.int sd))] ∧ L.length ≤ 40 * i + j, ⟨L, _, o5, rfl, hL⟩, ?_, ?_⟩
        · rintro j d ρ hd ⟨L, sd, o5, rfl, hL⟩
          obtain ⟨hj, rfl⟩ := rangeD_some hd
          refine ⟨_, rfl, sd, rfl, .inr (by decide), _, rfl, sd, rfl, by unfold CDiv; decide, ?_⟩
          exact ⟨_, rfl, j, rfl, .inr (by decide), _, rfl, _, rfl, _, rfl, by unfold CDiv; decide, by rw [List.length_map]; omega, L ++ [(sd * 40692 + sd / 53668 + j * 97 + 5) % 2147483399 / 16], (sd * 40692 + sd / 53668 + j * 97 + 5) % 2147483399, some (.v (.int j)), by simp, by simp; omega⟩
        · rintro ρ ⟨L, sd, o5, rfl, hL⟩
          rw [rangeD_len] at hL
          exact ⟨L, _, _, _, _, _, rfl, by omega⟩
  · rintro ρ ⟨L, o2, o3, o4, o5, o6, rfl, hL⟩
    exact ⟨_, rfl, _, rfl, h _ ⟨L, rfl⟩⟩
def po__law_like : List D → (D → Prop) → Prop := fun ds P => ∃ (d : D), ds = [d, d] ∧ ((∃ i, d = .int i ∧ i.natAbs.log2 < 1920) ∨ (Shows d ∧ d.fit 60 = true)) ∧ P (.bl true)
theorem sc__law_like : FnScope ["_law_thing", "_law_due"] ["_law_thing", "_law_due"] (defScope s__law_like) := ⟨rfl, rfl, rfl, by decide +kernel, rfl, by decide +kernel, by decide +kernel⟩
theorem ok__law_like (F : FnP K "_law_like" "_law_like" s__law_like f fd) (Z : Free mg)  : FnG T.prog T.w K mg base 1 f fd ["_law_thing", "_law_due"] (spD T po__law_like) := by
  have sc := sc__law_like
  refine okDG (T := T) F sc (fun ds P h => ?_) fun cdv A outer s H E hG hr => ⟨_, (pss_one (ps_ret (pe_and (pe_cmpR (o_eqK (K := K) rfl (hu64 hr)) (pe_callB (c_repr2 (K := K) rfl hG (hu64 hr)) (by rfl) Z.repr bt_repr (pa_cons (pv 0) pa_nil)) (pe_callB (c_repr2 (K := K) rfl hG (hu64 hr)) (by rfl) Z.repr bt_repr (pa_cons (pv 1) pa_nil)) (nomark _)) (pe_one (pe_cmpR (o_eqK (K := K) rfl (hu64 hr)) (pv 0) (pv 1) (nomark _)))))), fun ds P h => ?_⟩
  · obtain ⟨d, rfl, _⟩ := h; rfl
  · obtain ⟨d, rfl, p0, h⟩ := h
    refine Left.mk ?_
    simp (maxSteps := 3000000) [argsOf, and_assoc]
    rcases p0 with ⟨i, rfl, hi⟩ | ⟨hd, hf⟩
    · exact .inl ⟨i, rfl, hi, .inl ⟨i, rfl, hi, by rw [if_pos rfl]; exact ⟨eqOk_int _ _, h⟩⟩⟩
    · exact .inr ⟨hd, .inr ⟨hd, .inr (.inr (.inr ⟨hf, hf⟩)), h⟩⟩
end
end
end DL
/-! M15: webs turned, renamed, united -/
namespace DL
open PySem L2 PyProof.Rows
noncomputable section
theorem pd_mem {α β : Type} {R : α → β → Prop} {y : β} : ∀ {a : List α} {b : List β}, Paired R a b → y ∈ b → ∃ x ∈ a, R x y
  | _, _, .nil, h => nomatch h
  | _, _, .cons q t, h => by
    rcases List.mem_cons.mp h with rfl | h
    · exact ⟨_, List.mem_cons_self, q⟩
    · obtain ⟨x, h1, h2⟩ := pd_mem t h
      exact ⟨x, List.mem_cons_of_mem _ h1, h2⟩
theorem pd_left {α β γ : Type} {R : α → β → Prop} {S : γ → β → Prop} {f : α → γ} (hm : ∀ x y, R x y → S (f x) y) : ∀ {a : List α} {b : List β}, Paired R a b → Paired S (a.map f) b
  | _, _, .nil => .nil
  | _, _, .cons q t => .cons (hm _ _ q) (pd_left hm t)
theorem pd_imp {α β : Type} {R S : α → β → Prop} (hm : ∀ x y, R x y → S x y) : ∀ {a : List α} {b : List β}, Paired R a b → Paired S a b
  | _, _, .nil => .nil
  | _, _, .cons q t => .cons (hm _ _ q) (pd_imp hm t)
theorem pd_flip {α β : Type} {R : α → β → Prop} {S : β → α → Prop} (hm : ∀ x y, R x y → S y x) : ∀ {a : List α} {b : List β}, Paired R a b → Paired S b a
  | _, _, .nil => .nil
  | _, _, .cons q t => .cons (hm _ _ q) (pd_flip hm t)
abbrev PermW (w v : List Ar) : Prop := v.Perm w
theorem pm_same {ws vs : List (List Ar)} (h : Paired PermW ws vs) : Paired Same ws vs := pd_imp (fun _ _ q => same_perm q) h
theorem pm_ok {k : Int} {ws vs : List (List Ar)} (hw : WsOk k ws) (h : Paired PermW ws vs) : WsOk k vs := fun v hv => by
  obtain ⟨w, h1, h2⟩ := pd_mem h hv
  exact wok_perm h2 (hw w h1)
theorem wok_turn {k : Int} {w : List Ar} (h : WOk k w) : WOk k (w.map Ar.turn) := by
  refine ⟨fun r hr => ?_, ?_, by rw [List.length_map]; exact h.few⟩
  · obtain ⟨s, hs, rfl⟩ := List.mem_map.mp hr
    exact turn_ok (h.ok s hs)
  · rw [List.map_map]
    exact nodup_of_inj h.nd fun x hx y hy e => md_turn e
theorem wok_ren {k : Int} {n : List Int} (hn : NmOk k n) {w : List Ar} (h : WOk k w) : WOk k (w.map (Ar.ren n)) := by
  refine ⟨fun r hr => ?_, ?_, by rw [List.length_map]; exact h.few⟩
  · obtain ⟨s, hs, rfl⟩ := List.mem_map.mp hr
    exact ren_ok hn (h.ok s hs)
  · rw [List.map_map]
    exact nodup_of_inj h.nd fun x hx y hy e => md_ren hn (h.ok x hx) (h.ok y hy) e
theorem wsok_turn {k : Int} {ws : List (List Ar)} (h : WsOk k ws) : WsOk k (ws.map fun w => w.map Ar.turn) := fun v hv => by
  obtain ⟨w, hw, rfl⟩ := List.mem_map.mp hv
  exact wok_turn (h w hw)
theorem wsok_ren {k : Int} {n : List Int} (hn : NmOk k n) {ws : List (List Ar)} (h : WsOk k ws) : WsOk k (ws.map fun w => w.map (Ar.ren n)) := fun v hv => by
  obtain ⟨w, hw, rfl⟩ := List.mem_map.mp hv
  exact wok_ren hn (h w hw)
theorem pos_ren {k : Int} {n : List Int} (hn : NmOk k n) {m : Nat} {p : List Int} (h : PosOk k m p) : PosOk k m (p.map (nm n)) := by
  refine ⟨fun x hx => ?_, by rw [List.length_map]; exact h.len⟩
  obtain ⟨y, hy, rfl⟩ := List.mem_map.mp hx
  exact nm_rg hn (h.rg y hy)
theorem md_sub {a b : List Ar} (h : ∀ m, m ∈ a.map Ar.md → m ∈ b.map Ar.md) : Sub a b := fun m hm => by
  obtain ⟨r, hr, rfl⟩ := List.mem_map.mp hm
  obtain ⟨s, hs, e⟩ := List.mem_map.mp (h r.md (List.mem_map.mpr ⟨r, hr, rfl⟩))
  exact List.mem_map.mpr ⟨s, hs, md_mark.mp e⟩
theorem md_same {a b : List Ar} (h : ∀ m, m ∈ a.map Ar.md ↔ m ∈ b.map Ar.md) : Same a b := fun m => ⟨md_sub (fun m => (h m).mp) m, md_sub (fun m => (h m).mpr) m⟩
/-- both arrows, the greater ones turned -/
def unite (ws ms : List (List Ar)) : List (List Ar) := (ws.zip ms).map fun q => q.1 ++ q.2.map Ar.turn
theorem unite_len {R : List Ar → List Ar → Prop} {ws ms : List (List Ar)} (h : Paired R ws ms) : (unite ws ms).length = ws.length := by
  unfold unite
  rw [List.length_map, List.length_zip, Paired.length h, Nat.min_self]
theorem unite_get {ws ms : List (List Ar)} {i : Nat} {w m : List Ar} (h1 : ws[i]? = some w) (h2 : ms[i]? = some m) : (unite ws ms)[i]? = some (w ++ m.map Ar.turn) := by
  unfold unite
  rw [List.getElem?_map, (List.getElem?_zip_eq_some (z := (w, m))).mpr ⟨h1, h2⟩]
  rfl
theorem unite_ok {k : Int} {ws ms : List (List Ar)} (h1 : WsOk k ws) (h2 : WsOk k ms) : WsOk2 k (unite ws ms) := fun v hv => by
  obtain ⟨⟨a, b⟩, hq, rfl⟩ := List.mem_map.mp hv
  have ha := h1 a (List.of_mem_zip hq).1
  have hb := wok_turn (h2 b (List.of_mem_zip hq).2)
  refine ⟨fun r hr => ?_, ?_⟩
  · rcases List.mem_append.mp hr with hr | hr
    · exact ha.ok r hr
    · exact hb.ok r hr
  · show (a ++ b.map Ar.turn).length ≤ 600
    rw [List.length_append]
    have := ha.few
    have := hb.few
    omega
theorem unite_l {R : List Ar → List Ar → Prop} : ∀ {ws ms : List (List Ar)}, Paired R ws ms → Paired Sub ws (unite ws ms)
  | _, _, .nil => .nil
  | _, _, .cons _ t => .cons (fun m hm => by
      obtain ⟨r, hr, rfl⟩ := List.mem_map.mp hm
      exact List.mem_map.mpr ⟨r, List.mem_append_left _ hr, rfl⟩) (unite_l t)
theorem unite_r {R : List Ar → List Ar → Prop} : ∀ {ws ms : List (List Ar)}, Paired R ws ms → Paired Sub (ms.map fun w => w.map Ar.turn) (unite ws ms)
  | _, _, .nil => .nil
  | _, _, .cons _ t => .cons (fun m hm => by
      obtain ⟨r, hr, rfl⟩ := List.mem_map.mp hm
      exact List.mem_map.mpr ⟨r, List.mem_append_right _ hr, rfl⟩) (unite_r t)
theorem les_nil : LeS [] [] := .nil
theorem turn_same {w v : List Ar} (h : Same w v) : Same (w.map Ar.turn) (v.map Ar.turn) := by
  have key : ∀ a b : List Ar, Same a b → ∀ m, m ∈ (a.map Ar.turn).map Ar.mark → m ∈ (b.map Ar.turn).map Ar.mark := fun a b h m hm => by
    rw [List.map_map] at hm ⊢
    obtain ⟨r, hr, rfl⟩ := List.mem_map.mp hm
    obtain ⟨s, hs, e⟩ := List.mem_map.mp ((h r.mark).mp (List.mem_map.mpr ⟨r, hr, rfl⟩))
    simp only [Ar.mark, Prod.mk.injEq] at e
    exact List.mem_map.mpr ⟨s, hs, by simp only [Function.comp, Ar.mark, Ar.turn, e.1, e.2.1, e.2.2]⟩
  exact fun m => ⟨key w v h m, key v w h.symm m⟩
theorem same_app {a b c d : List Ar} (h1 : Same a c) (h2 : Same b d) : Same (a ++ b) (c ++ d) := fun m => by
  rw [List.map_append, List.map_append, List.mem_append, List.mem_append, h1 m, h2 m]
theorem pd_f {f : List Ar → List Ar} {vs us : List (List Ar)} (h : Paired (fun w v => List.Perm v (f w)) vs us) : Paired PermW (vs.map f) us := pd_left (R := fun w v => List.Perm v (f w)) (S := PermW) (f := f) (fun _ _ q => q) h
/-- the sets of the game are the sets of the webs -/
theorem sets_game {ws vs : List (List Ar)} {p : List Int} {Ss Rs : List (List Int)} (h : Paired PermW ws vs) (h1 : SetsOk [] ws p Ss) (h2 : SetsOk [] vs p Rs) : Rs = Ss := h2.uniq (h1.same (pm_same h))
theorem sets_turned {ws vs us : List (List Ar)} {p : List Int} {Ss Rs : List (List Int)} (h : Paired PermW ws vs) (h3 : Paired (fun w v => List.Perm v (w.map Ar.turn)) vs us) (h1 : SetsOk [] ws p Ss) (h2 : SetsOk [] us p Rs) : Rs = Ss :=
  h2.uniq ((h1.same (pm_same h)).turn.same (pm_same (pd_f h3)))
theorem sets_ren {k : Int} {n : List Int} (hn : NmOk k n) {ws vs us : List (List Ar)} {p : List Int} {Ss Rs : List (List Int)} (hw : WsOk k ws) (hp : ∀ x ∈ p, 0 ≤ x ∧ x < k) (h : Paired PermW ws vs) (h3 : Paired (fun w v => List.Perm v (w.map (Ar.ren n))) vs us) (h1 : SetsOk [] ws p Ss) (h2 : SetsOk [] us (p.map (nm n)) Rs) : Rs = Ss.map fun S => srt (S.map (nm n)) :=
  h2.uniq (((h1.same (pm_same h)).ren hn (pm_ok hw h) hp fun S hS => (nomatch hS)).same (pm_same (pd_f h3)))
theorem ok_turned {k : Int} {vs us : List (List Ar)} (hw : WsOk k vs) (h : Paired (fun w v => List.Perm v (w.map Ar.turn)) vs us) : WsOk k us := pm_ok (wsok_turn hw) (pd_f h)
theorem ok_ren {k : Int} {n : List Int} (hn : NmOk k n) {vs us : List (List Ar)} (hw : WsOk k vs) (h : Paired (fun w v => List.Perm v (w.map (Ar.ren n))) vs us) : WsOk k us := pm_ok (wsok_ren hn hw) (pd_f h)
/-- what is shown: sets -/
theorem sets_small {k : Int} (hk : k ≤ 5) {ws : List (List Ar)} {p : List Int} {Ss : List (List Int)} (h : SetsOk [] ws p Ss) (hw : WsOk k ws) (hp : ∀ x ∈ p, 0 ≤ x ∧ x < k) : ∀ S ∈ Ss, S.length ≤ 5 ∧ ∀ y ∈ S, 0 ≤ y ∧ y < 5 := fun S hS =>
  ⟨h.few hk hw hp S hS, fun y hy => by have := h.rg hw hp S hS y hy; omega⟩
theorem sets_show {k : Int} (hk : k ≤ 5) {ws : List (List Ar)} {p : List Int} {Ss : List (List Int)} (h : SetsOk [] ws p Ss) (hw : WsOk k ws) (hn : ws.length ≤ 40) (hp : ∀ x ∈ p, 0 ≤ x ∧ x < k) : Shows (.tup (Ss.map intsT)) :=
  shows_sets (by rw [h.len.1]; exact hn) (sets_small hk h hw hp)
theorem fit_sets (Ss : List (List Int)) (n : Nat) : D.fitA (Ss.map intsT) (n + 1) = true := fitA_map (fun g => by rw [fit_tup]; exact fitA_map (fun g => by simp) g) Ss
end
end DL
namespace DL
open PySem L2 PyProof.Rows
noncomputable section
section
variable {T : Tx} {K : PySem.W.Frag} {mg : Str → Option Value} {base : Heap} {f f0 f1 f2 f3 f4 f5 f6 f7 f8 f9 f10 f11 f12 f13 f14 f15 f16 f17 f18 f19 : Addr} {fd fd0 fd1 fd2 fd3 fd4 fd5 fd6 fd7 fd8 fd9 fd10 fd11 fd12 fd13 fd14 fd15 fd16 fd17 fd18 fd19 : FuncData} [ci : CI T K] [n1 : NoF "turned"] [n2 : NoF "renamed"] [n3 : NoF "guards"]
def po__law_others_agree : List D → (D → Prop) → Prop := fun ds P => ∃ (k : Int) (ws : List (List Ar)) (p : List Int), ds = [.int k, websD ws, intsT p] ∧ (3 ≤ k ∧ k ≤ 5) ∧ WsOk k ws ∧ (∀ w ∈ ws, w.length ≤ 50) ∧ ws.length ≤ 40 ∧ PosOk k ws.length p ∧ P (.bl true)
theorem sc__law_others_agree : FnScope ["_law_draws_here", "_law_pegs", "_law_webs_here", "_law_position_here", "_law_game", "_law_due", "_law_names_here", "_law_other", "_law_place", "_law_renamed", "_law_more_here", "_law_wide", "_law_great", "_law_turned", "_law_union", "_law_both", "_law_united", "_law_disc", "_law_peg", "_law_row", "_law_arrow"] ["_law_draws_here", "_law_pegs", "_law_webs_here", "_law_position_here"] (defScope s__law_others_agree) := ⟨rfl, rfl, rfl, by decide +kernel, rfl, by decide +kernel, by decide +kernel⟩
theorem ok__law_others_agree (F : FnP K "_law_others_agree" "_law_others_agree" s__law_others_agree f fd) (Z : Free mg) (U__law_within : Use T.prog T.w K mg base "_law_within" 1 ["_law_lesser", "_law_greater"] (spD T po__law_within) f0 fd0) (U__law_like : UseG T.prog T.w K mg base "_law_like" 1 ["_law_thing", "_law_due"] (spD T po__law_like) f1 fd1) (U__law_sets : Use T.prog T.w K mg base "_law_sets" 3 ["_law_pegs", "_law_webs_here", "_law_position_here"] (spD T po__law_sets) f2 fd2) (U_sets_of : Use T.prog T.w K mg base "sets_of" 4 ["game", "position"] (spD T po_sets_of) f3 fd3) (m_Game : mg "Game" = some (.ref T.CG)) (U_Game : UseI T.prog T.w K mg base T.CG 3 ["self", "pegs", "webs"] (spI T T.CG po_Game___init__) f4 fd4) (U_Web___or__ : UseM T.prog T.w K mg base T.CW "__or__" 9 ["self", "other"] (spD T po_Web___or__) f5 fd5) (orF : PySem.W.selfFirst K T.CW = true) (U_Game___getitem__ : UseM T.prog T.w K mg base T.CG "__getitem__" 3 ["self", "disc"] (spD T po_Game___getitem__) f6 fd6) (ixF : PySem.W.fnIn K f6 = true) (U_Game_turned : UseM T.prog T.w K mg base T.CG "turned" 10 ["self"] (spD T po_Game_turned) f7 fd7) (U__law_built : Use T.prog T.w K mg base "_law_built" 9 ["_law_pegs", "_law_webs_here"] (spD T po__law_built) f8 fd8) (U__law_more : Use T.prog T.w K mg base "_law_more" 4 ["_law_draws_here", "_law_pegs", "_law_webs_here"] (spR T po__law_more) f9 fd9) (U__law_size : Use T.prog T.w K mg base "_law_size" 1 ["_law_sets_here"] (spD T po__law_size) f10 fd10) (U_room_size : Use T.prog T.w K mg base "room_size" 5 ["game", "position"] (spD T po_room_size) f11 fd11) (U_Game_renamed : UseM T.prog T.w K mg base T.CG "renamed" 10 ["self", "names"] (spD T po_Game_renamed) f12 fd12) (U__law_names : Use T.prog T.w K mg base "_law_names" 2 ["_law_draws_here", "_law_pegs"] (spR T po__law_names) f13 fd13) : FnG T.prog T.w K mg base 11 f fd ["_law_draws_here", "_law_pegs", "_law_webs_here", "_law_position_here"] (spR T po__law_others_agree) := by
  have sc := sc__law_others_agree
  refine okRG (T := T) F sc (fun ds P h => ?_) fun cdv A outer s H E hG hr => ⟨_, (pss_consJ (ps_set (i := 4) sc.nd rfl (by first | exact Or.inl rfl | exact Or.inr rfl) (pe_use U__law_built (hr.mono (by decide)) (by rfl) (pa_cons (pv 1) (pa_cons (pv 2) pa_nil))))
        (pss_consJ (ps_set (i := 5) sc.nd rfl (by first | exact Or.inl rfl | exact Or.inr rfl) (pe_use U__law_sets (hr.mono (by decide)) (by rfl) (pa_cons (pv 1) (pa_cons (pv 2) (pa_cons (pv 3) pa_nil)))))
        (pss_consJ (ps_if (PW.pt (pw_or (pt_not (pt_val (pe_useG U__law_like hG (hr.mono (by decide)) (by rfl) (pa_cons (pe_use U_sets_of (hr.mono (by decide)) (by rfl) (pa_cons (pv 4) (pa_cons (pv 3) pa_nil))) (pa_cons (pv 5) pa_nil))))) (pw_or1 (pt_not (pt_val (pe_useG U__law_like hG (hr.mono (by decide)) (by rfl) (pa_cons (pe_use U_sets_of (hr.mono (by decide)) (by rfl) (pa_cons (pe_meth0 (pv 4) ci.cG U_Game_turned.m U_Game_turned.ok (hr.mono (by decide)) U_Game_turned.b .nil pass0) (pa_cons (pe_callTy (c_list2 (K := K) rfl) (by rfl) Z.list bt_list (pa_cons (pv 3) pa_nil)) pa_nil))) (pa_cons (pv 5) pa_nil)))))))) (pss_one (ps_ret pe_bl)) pss_nil)
        (pss_consJ (ps_set (i := 6) sc.nd rfl (by first | exact Or.inl rfl | exact Or.inr rfl) (pe_use U__law_names (hr.mono (by decide)) (by rfl) (pa_cons (pv 0) (pa_cons (pv 1) pa_nil))))
        (pss_consJ (ps_set (i := 7) sc.nd rfl (by first | exact Or.inl rfl | exact Or.inr rfl) (pe_meth (pv 4) ci.cG U_Game_renamed.m U_Game_renamed.ok (hr.mono (by decide)) U_Game_renamed.b .nil pass0 (pa_cons (pv 6) pa_nil)))
        (pss_consJ (ps_set (i := 8) sc.nd rfl (by first | exact Or.inl rfl | exact Or.inr rfl) (pe_callTy (c_tuple2 (K := K) rfl) (by rfl) Z.tuple bt_tuple (pa_cons (pe_lc (own := [("_law_peg", 18)]) rfl sc.nd (pi_seqK (K := K) rfl (pv 3)) (blkOk_by (N := ["_law_draws_here", "_law_pegs", "_law_webs_here", "_law_position_here", "_law_game", "_law_due", "_law_names_here", "_law_other", "_law_place", "_law_renamed", "_law_more_here", "_law_wide", "_law_great", "_law_turned", "_law_union", "_law_both", "_law_united", "_law_disc", "_law_peg", "_law_row", "_law_arrow"]) (sc := defScope s__law_others_agree) (by decide +kernel)) (fun _ _ _ _ _ => (pg_name (i := 18) sc.nd rfl (by first | exact Or.inl rfl | exact Or.inr rfl))) (fun _ _ _ _ _ => pts_nil) (fun _ _ _ _ _ => (pe_ix (ix_seqK (K := K) rfl) (pv 6) (pv 18) (fun _ _ => rfl)))) pa_nil)))
        (pss_consJ (ps_set (i := 9) sc.nd rfl (by first | exact Or.inl rfl | exact Or.inr rfl) (pe_callTy (c_tuple2 (K := K) rfl) (by rfl) Z.tuple bt_tuple (pa_cons (pe_lc (own := [("_law_row", 19)]) rfl sc.nd (pi_seqK (K := K) rfl (pv 5)) (blkOk_by (N := ["_law_draws_here", "_law_pegs", "_law_webs_here", "_law_position_here", "_law_game", "_law_due", "_law_names_here", "_law_other", "_law_place", "_law_renamed", "_law_more_here", "_law_wide", "_law_great", "_law_turned", "_law_union", "_law_both", "_law_united", "_law_disc", "_law_peg", "_law_row", "_law_arrow"]) (sc := defScope s__law_others_agree) (by decide +kernel)) (fun _ _ _ _ _ => (pg_name (i := 19) sc.nd rfl (by first | exact Or.inl rfl | exact Or.inr rfl))) (fun _ _ _ _ _ => pts_nil) (fun _ _ _ _ _ => (pe_callTy (c_tuple2 (K := K) rfl) (by rfl) Z.tuple bt_tuple (pa_cons (pe_callB (c_sort2 (T := T) (K := K) rfl ⟨rfl, rfl⟩ rfl (hu65 hr)) (by rfl) Z.sorted bt_sorted (pa_cons (pe_lc (own := [("_law_peg", 18)]) rfl sc.nd (pi_seqK (K := K) rfl (pv 19)) (blkOk_by (by kernel_rfl)) (fun _ _ _ _ _ => (pg_name (i := 18) sc.nd rfl (by first | exact Or.inl rfl | exact Or.inr rfl))) (fun _ _ _ _ _ => pts_nil) (fun _ _ _ _ _ => (pe_ix (ix_seqK (K := K) rfl) (pv 6) (pv 18) (fun _ _ => rfl)))) pa_nil)) pa_nil)))) pa_nil)))
        (pss_consJ (ps_if (PW.pt (pw_or (pt_not (pt_val (pe_useG U__law_like hG (hr.mono (by decide)) (by rfl) (pa_cons (pe_use U_sets_of (hr.mono (by decide)) (by rfl) (pa_cons (pv 7) (pa_cons (pv 8) pa_nil))) (pa_cons (pv 9) pa_nil))))) (pw_or1 (pt_not (pt_val (pe_useG U__law_like hG (hr.mono (by decide)) (by rfl) (pa_cons (pe_use U_room_size (hr.mono (by decide)) (by rfl) (pa_cons (pv 7) (pa_cons (pv 8) pa_nil))) (pa_cons (pe_use U__law_size (hr.mono (by decide)) (by rfl) (pa_cons (pv 5) pa_nil)) pa_nil)))))))) (pss_one (ps_ret pe_bl)) pss_nil)
        (pss_consJ (ps_set (i := 10) sc.nd rfl (by first | exact Or.inl rfl | exact Or.inr rfl) (pe_use U__law_more (hr.mono (by decide)) (by rfl) (pa_cons (pv 0) (pa_cons (pv 1) (pa_cons (pv 2) pa_nil)))))
        (pss_consJ (ps_set (i := 11) sc.nd rfl (by first | exact Or.inl rfl | exact Or.inr rfl) (pe_use U__law_built (hr.mono (by decide)) (by rfl) (pa_cons (pv 1) (pa_cons (pv 10) pa_nil))))
        (pss_consJ (ps_set (i := 12) sc.nd rfl (by first | exact Or.inl rfl | exact Or.inr rfl) (pe_use U__law_sets (hr.mono (by decide)) (by rfl) (pa_cons (pv 1) (pa_cons (pv 10) (pa_cons (pv 3) pa_nil)))))
        (pss_consJ (ps_if (PW.pt (pw_or (pt_not (pt_val (pe_useG U__law_like hG (hr.mono (by decide)) (by rfl) (pa_cons (pe_use U_sets_of (hr.mono (by decide)) (by rfl) (pa_cons (pv 11) (pa_cons (pv 3) pa_nil))) (pa_cons (pv 12) pa_nil))))) (pw_or1 (pt_not (pt_val (pe_use U__law_within (hr.mono (by decide)) (by rfl) (pa_cons (pv 5) (pa_cons (pv 12) pa_nil)))))))) (pss_one (ps_ret pe_bl)) pss_nil)
        (pss_consJ (ps_set (i := 13) sc.nd rfl (by first | exact Or.inl rfl | exact Or.inr rfl) (pe_meth0 (pv 11) ci.cG U_Game_turned.m U_Game_turned.ok (hr.mono (by decide)) U_Game_turned.b .nil pass0))
        (pss_consJ (ps_set (i := 14) sc.nd rfl (by first | exact Or.inl rfl | exact Or.inr rfl) (pe_make U_Game.mkr U_Game.ok (hr.mono (by decide)) (by rfl) m_Game U_Game.b .nil pass0 (pa_cons (pv 1) (pa_cons (pe_lc (own := [("_law_disc", 17)]) rfl sc.nd (pi_range1 (by rfl) Z.range (pa_cons (pe_callB (c_lenK2 (K := K) rfl) (by rfl) Z.len bt_len (pa_cons (pv 2) pa_nil)) pa_nil)) (blkOk_by (N := ["_law_draws_here", "_law_pegs", "_law_webs_here", "_law_position_here", "_law_game", "_law_due", "_law_names_here", "_law_other", "_law_place", "_law_renamed", "_law_more_here", "_law_wide", "_law_great", "_law_turned", "_law_union", "_law_both", "_law_united", "_law_disc", "_law_peg", "_law_row", "_law_arrow"]) (sc := defScope s__law_others_agree) (by decide +kernel)) (fun _ _ _ _ _ => (pg_name (i := 17) sc.nd rfl (by first | exact Or.inl rfl | exact Or.inr rfl))) (fun _ _ _ _ _ => pts_nil) (fun _ _ _ _ _ => (pe_op (op_own U_Web___or__.ok (hr.mono (by decide)) U_Web___or__.b pass0 orF U_Web___or__.m.at_ U_Web___or__.m.fn) (pe_ixO U_Game___getitem__.ok (hr.mono (by decide)) U_Game___getitem__.b ixF U_Game___getitem__.m.at_ U_Game___getitem__.m.fn (pv 4) (pv 17) (fun _ _ => by with_unfolding_all rfl)) (pe_ixO U_Game___getitem__.ok (hr.mono (by decide)) U_Game___getitem__.b ixF U_Game___getitem__.m.at_ U_Game___getitem__.m.fn (pv 13) (pv 17) (fun _ _ => by with_unfolding_all rfl))))) pa_nil))))
        (pss_consJ (ps_set (i := 15) sc.nd rfl (by first | exact Or.inl rfl | exact Or.inr rfl) (pe_use U_sets_of (hr.mono (by decide)) (by rfl) (pa_cons (pv 14) (pa_cons (pv 3) pa_nil))))
        (pss_consJ (ps_own (ps_set (i := 16) sc.nd rfl (by first | exact Or.inl rfl | exact Or.inr rfl) (pe_lst pa_nil)))
        (pss_consJ (ps_for PassesOwn.never rfl (pi_range1 (by rfl) Z.range (pa_cons (pe_callB (c_lenK2 (K := K) rfl) (by rfl) Z.len bt_len (pa_cons (pv 2) pa_nil)) pa_nil)) (pg_name (i := 17) sc.nd rfl (by first | exact Or.inl rfl | exact Or.inr rfl)) (pss_one (ps_expr (pe_bm PySem.F.plainAttrs_list PySem.F.slot_list_append PySem.F.type_list_append mt_append (pv 16) (pa_cons (pe_op (o_plusK (K := K) rfl) (pe_ix (ix_seqK (K := K) rfl) (pv 2) (pv 17) (fun _ _ => rfl)) (pe_lc (own := [("_law_arrow", 20)]) rfl sc.nd (pi_seqK (K := K) rfl (pe_ix (ix_seqK (K := K) rfl) (pv 10) (pv 17) (fun _ _ => rfl))) (blkOk_by (N := ["_law_draws_here", "_law_pegs", "_law_webs_here", "_law_position_here", "_law_game", "_law_due", "_law_names_here", "_law_other", "_law_place", "_law_renamed", "_law_more_here", "_law_wide", "_law_great", "_law_turned", "_law_union", "_law_both", "_law_united", "_law_disc", "_law_peg", "_law_row", "_law_arrow"]) (sc := defScope s__law_others_agree) (by decide +kernel)) (fun _ _ _ _ _ => (pg_name (i := 20) sc.nd rfl (by first | exact Or.inl rfl | exact Or.inr rfl))) (fun _ _ _ _ _ => pts_nil) (fun _ _ _ _ _ => (pe_tup (pa_cons (pe_ix (ix_seqK (K := K) rfl) (pv 20) pe_int (fun _ _ => rfl)) (pa_cons (pe_ix (ix_seqK (K := K) rfl) (pv 20) pe_int (fun _ _ => rfl)) (pa_cons (pe_ix (ix_seqK (K := K) rfl) (pv 20) pe_int (fun _ _ => rfl)) (pa_cons (pe_ix (ix_seqK (K := K) rfl) (pv 20) pe_int (fun _ _ => rfl)) pa_nil)))))))) pa_nil)))))
        (pss_one (ps_frz 16 (ps_ret (pe_and (pe_useG U__law_like hG (hr.mono (by decide)) (by rfl) (pa_cons (pv 15) (pa_cons (pe_use U__law_sets (hr.mono (by decide)) (by rfl) (pa_cons (pv 1) (pa_cons (pv 16) (pa_cons (pv 3) pa_nil)))) pa_nil))) (pe_and (pe_use U__law_within (hr.mono (by decide)) (by rfl) (pa_cons (pv 5) (pa_cons (pv 15) pa_nil))) (pe_one (pe_use U__law_within (hr.mono (by decide)) (by rfl) (pa_cons (pv 12) (pa_cons (pv 15) pa_nil)))))))))))))))))))))))))), fun ds P h => ?_⟩
  · obtain ⟨k, ws, p, rfl, _⟩ := h; rfl
  · obtain ⟨k, ws, p, rfl, p0, p1, p2, p3, p4, h⟩ := h
    refine Left.mk ?_
    simp (maxSteps := 3000000) [argsOf, and_assoc, po__law_built, po__law_sets, po__law_like, po_sets_of, po_Game_turned, po__law_names, po_Game_renamed, po_room_size, po__law_size, po__law_more, po__law_within, po_Game___init__, po_Web___or__, po_Game___getitem__]
    refine ⟨fun ρ => ∃ vs : List (List Ar), ρ = [some .dr, some (.v (.int k)), some (.v (websD ws)), some (.v (intsT p)), some (.v (gameD k vs)), none, none, none, none, none, none, none, none, none, none, none, none, none, none, none, none] ∧ Paired PermW ws vs, ⟨ws, rfl, p0.1, p0.2, p1, p3, fun vs hv => ⟨vs, rfl, hv⟩⟩, ?_⟩
    rintro ρ ⟨vs, rfl, hv⟩
    have vok := pm_ok p1 hv
    have vl : vs.length = ws.length := (Paired.length hv).symm
    have vp : PosOk k vs.length p := by rw [vl]; exact p4
    refine ⟨fun ρ => ∃ Ss : List (List Int), ρ = [some .dr, some (.v (.int k)), some (.v (websD ws)), some (.v (intsT p)), some (.v (gameD k vs)), some (.v (.tup (Ss.map intsT))), none, none, none, none, none, none, none, none, none, none, none, none, none, none, none] ∧ SetsOk [] ws p Ss, ⟨_, rfl, _, rfl, _, rfl, k, rfl, ws, rfl, p, rfl, p0.1, p0.2, p1.two, p3, p4, fun Ss hS => ⟨Ss, rfl, hS⟩⟩, ?_⟩
    rintro ρ ⟨Ss, rfl, hS⟩
    have hsh := sets_show p0.2 hS p1 p3 p4.rg
    refine ⟨fun ρ => ρ = [some .dr, some (.v (.int k)), some (.v (websD ws)), some (.v (intsT p)), some (.v (gameD k vs)), some (.v (.tup (Ss.map intsT))), none, none, none, none, none, none, none, none, none, none, none, none, none, none, none], ⟨_, rfl, _, rfl, k, vs, rfl, p, .inl rfl, p0.1, p0.2, vok, by omega, vp, fun S1 h1 => ?_⟩, ?_⟩
    · rw [sets_game hv hS h1]
      refine ⟨_, rfl, rfl, hsh, fit_sets Ss 58, _, rfl, ⟨_, _, rfl⟩, k, vs, rfl, p0.1, p0.2, vok, by omega, fun us hu => ?_⟩
      have uok := ok_turned vok hu
      have ul : us.length = vs.length := (Paired.length hu).symm
      refine ⟨_, rfl, _, .inr rfl, us, rfl, p, rfl, p0.1, p0.2, uok, by omega, by rw [ul]; exact vp, fun S2 h2 => ?_⟩
      rw [sets_turned hv hu hS h2]
      exact ⟨_, rfl, rfl, hsh, fit_sets Ss 58, rfl⟩
    rintro ρ rfl
    refine ⟨rfl, fun ρ => ∃ n : List Int, ρ = [some .dr, some (.v (.int k)), some (.v (websD ws)), some (.v (intsT p)), some (.v (gameD k vs)), some (.v (.tup (Ss.map intsT))), some (.v (intsL n)), none, none, none, none, none, none, none, none, none, none, none, none, none, none] ∧ NmOk k n, ⟨_, rfl, k, rfl, p0.1, p0.2, fun n hn => ⟨n, rfl, hn⟩⟩, ?_⟩
    rintro ρ ⟨n, rfl, hn⟩
    refine ⟨fun ρ => ∃ us : List (List Ar), ρ = [some .dr, some (.v (.int k)), some (.v (websD ws)), some (.v (intsT p)), some (.v (gameD k vs)), some (.v (.tup (Ss.map intsT))), some (.v (intsL n)), some (.v (gameD k us)), none, none, none, none, none, none, none, none, none, none, none, none, none] ∧ Paired (fun w v => List.Perm v (w.map (Ar.ren n))) vs us, ⟨_, rfl, ⟨_, _, rfl⟩, _, rfl, k, vs, rfl, n, .inr rfl, p0.1, p0.2, vok, by omega, hn, fun us hu => ⟨us, rfl, hu⟩⟩, ?_⟩
    rintro ρ ⟨us, rfl, hu⟩
    have uok := ok_ren hn vok hu
    have ul : us.length = vs.length := (Paired.length hu).symm
    refine ⟨fun ρ => ρ = [some .dr, some (.v (.int k)), some (.v (websD ws)), some (.v (intsT p)), some (.v (gameD k vs)), some (.v (.tup (Ss.map intsT))), some (.v (intsL n)), some (.v (gameD k us)), some (.v (intsT (p.map (nm n)))), none, none, none, none, none, none, none, none, none, none, none, none], ⟨_, rfl, _, .inr rfl, by rw [List.length_map, p4.len]; omega, fun i acc => acc = (p.take i).map fun x => D.int (nm n x), rfl, ?_, ?_⟩, ?_⟩
    · rintro i d acc hd rfl
      obtain ⟨x, hx, rfl⟩ := get_intD hd
      have xr := p4.rg x (mem_get hx)
      refine ⟨_, rfl, _, rfl, _, .inl rfl, x.toNat, by rw [Int.toNat_of_nonneg xr.1], _, by rw [List.getElem?_map, nm_get hn xr]; rfl, ?_⟩
      show _ = _
      rw [take_next hx, List.map_append]
      rfl
    · rintro acc rfl
      rw [List.length_map, List.take_length]
      show _ = _
      rw [show (p.map fun x => D.int (nm n x)) = (p.map (nm n)).map D.int from by rw [List.map_map]; rfl]
      rfl
    rintro ρ rfl
    refine ⟨fun ρ => ρ = [some .dr, some (.v (.int k)), some (.v (websD ws)), some (.v (intsT p)), some (.v (gameD k vs)), some (.v (.tup (Ss.map intsT))), some (.v (intsL n)), some (.v (gameD k us)), some (.v (intsT (p.map (nm n)))), some (.v (.tup ((Ss.map fun S => srt (S.map (nm n))).map intsT))), none, none, none, none, none, none, none, none, none, none, none], ⟨_, rfl, _, .inr rfl, by rw [List.length_map, hS.len.1]; omega, fun i acc => acc = (Ss.take i).map fun S => intsT (srt (S.map (nm n))), rfl, ?_, ?_⟩, ?_⟩
    · rintro i d acc hd rfl
      obtain ⟨S, hx, rfl⟩ := get_map hd
      have sm := sets_small p0.2 hS p1 p4.rg S (mem_get hx)
      have sr := hS.rg p1 p4.rg S (mem_get hx)
      refine ⟨_, rfl, _, .inr rfl, by rw [List.length_map]; omega, fun j acc => acc = (S.take j).map fun x => D.int (nm n x), rfl, ?_, ?_⟩
      · rintro j e acc he rfl
        obtain ⟨x, hx2, rfl⟩ := get_intD he
        have xr := sr x (mem_get hx2)
        refine ⟨_, rfl, _, rfl, _, .inl rfl, x.toNat, by rw [Int.toNat_of_nonneg xr.1], _, by rw [List.getElem?_map, nm_get hn xr]; rfl, ?_⟩
        show _ = _
        rw [take_next hx2, List.map_append]
        rfl
      · rintro acc rfl
        rw [List.length_map, List.take_length, show (S.map fun x => D.int (nm n x)) = (S.map (nm n)).map D.int from by rw [List.map_map]; rfl]
        refine ⟨sortOk_ints _, fun fs pm pw => ?_⟩
        show _ = _
        rw [perm_ints pm pw, take_next hx, List.map_append]
        rfl
    · rintro acc rfl
      rw [List.length_map, List.take_length]
      show _ = _
      rw [List.map_map]
      rfl
    rintro ρ rfl
    have rsh : Shows (.tup ((Ss.map fun S => srt (S.map (nm n))).map intsT)) := by
      refine shows_sets (by rw [List.length_map, hS.len.1]; exact p3) fun R hR => ?_
      obtain ⟨S, hS', rfl⟩ := List.mem_map.mp hR
      obtain ⟨s1, s2⟩ := sets_small p0.2 hS p1 p4.rg S hS'
      refine ⟨by rw [(srt_perm _).length_eq, List.length_map]; exact s1, fun y hy => ?_⟩
      obtain ⟨z, hz, rfl⟩ := List.mem_map.mp ((srt_perm _).mem_iff.mp hy)
      have := nm_rg hn (hS.rg p1 p4.rg S hS' z hz)
      omega
    have up : PosOk k us.length (p.map (nm n)) := by rw [ul, vl]; exact pos_ren hn p4
    refine ⟨fun ρ => ∃ (a6 a7 a8 a9 : Option Kn), ρ = [some .dr, some (.v (.int k)), some (.v (websD ws)), some (.v (intsT p)), some (.v (gameD k vs)), some (.v (.tup (Ss.map intsT))), a6, a7, a8, a9, none, none, none, none, none, none, none, none, none, none, none], ⟨_, rfl, _, rfl, k, us, rfl, p.map (nm n), .inl rfl, p0.1, p0.2, uok, by omega, up, fun S1 h1 => ?_⟩, ?_⟩
    · rw [sets_ren hn p1 p4.rg hv hu hS h1]
      refine ⟨_, rfl, rfl, rsh, fit_sets _ 58, _, rfl, _, rfl, k, us, rfl, p.map (nm n), .inl rfl, p0.1, p0.2, uok, by omega, up, fun S2 h2 => ?_⟩
      rw [sets_ren hn p1 p4.rg hv hu hS h2]
      have few := fun S hS' => (sets_small p0.2 hS p1 p4.rg S hS').1
      have sl : Ss.length ≤ 40 := by rw [hS.len.1]; exact p3
      exact ⟨_, rfl, Ss, rfl, few, sl, (prod_ren n Ss).symm, .inl (by rw [prod_ren]; exact prod_log sl few), _, _, _, _, rfl⟩
    rintro ρ ⟨a6, a7, a8, a9, rfl⟩
    refine ⟨rfl, fun ρ => ∃ ms : List (List Ar), ρ = [some .dr, some (.v (.int k)), some (.v (websD ws)), some (.v (intsT p)), some (.v (gameD k vs)), some (.v (.tup (Ss.map intsT))), a6, a7, a8, a9, some (.v (websD ms)), none, none, none, none, none, none, none, none, none, none] ∧ WsOk k ms ∧ (∀ v ∈ ms, v.length ≤ 100) ∧ Paired (fun w v => ∀ r ∈ w, r ∈ v) ws ms, ⟨_, rfl, _, rfl, k, rfl, ws, rfl, p0.1, p0.2, p1, p3, p2, fun ms h1 h2 h3 => ⟨ms, rfl, h1, h2, h3⟩⟩, ?_⟩
    rintro ρ ⟨ms, rfl, mok, m100, hm⟩
    have ml : ms.length = ws.length := (Paired.length hm).symm
    have mp : PosOk k ms.length p := by rw [ml]; exact p4
    have hm2 : Paired Sub ws ms := pd_imp (fun w v q m hm => by
      obtain ⟨r, hr, rfl⟩ := List.mem_map.mp hm
      exact List.mem_map.mpr ⟨r, q r hr, rfl⟩) hm
    refine ⟨fun ρ => ∃ wd : List (List Ar), ρ = [some .dr, some (.v (.int k)), some (.v (websD ws)), some (.v (intsT p)), some (.v (gameD k vs)), some (.v (.tup (Ss.map intsT))), a6, a7, a8, a9, some (.v (websD ms)), some (.v (gameD k wd)), none, none, none, none, none, none, none, none, none] ∧ Paired PermW ms wd, ⟨_, rfl, _, rfl, k, rfl, ms, rfl, p0.1, p0.2, mok, by omega, fun wd h1 => ⟨wd, rfl, h1⟩⟩, ?_⟩
    rintro ρ ⟨wd, rfl, hw⟩
    have wok := pm_ok mok hw
    have wl : wd.length = ms.length := (Paired.length hw).symm
    have wp : PosOk k wd.length p := by rw [wl]; exact mp
    refine ⟨fun ρ => ∃ Gs : List (List Int), ρ = [some .dr, some (.v (.int k)), some (.v (websD ws)), some (.v (intsT p)), some (.v (gameD k vs)), some (.v (.tup (Ss.map intsT))), a6, a7, a8, a9, some (.v (websD ms)), some (.v (gameD k wd)), some (.v (.tup (Gs.map intsT))), none, none, none, none, none, none, none, none] ∧ SetsOk [] ms p Gs, ⟨_, rfl, _, rfl, _, rfl, k, rfl, ms, rfl, p, rfl, p0.1, p0.2, mok.two, by omega, mp, fun Gs h1 => ⟨Gs, rfl, h1⟩⟩, ?_⟩
    rintro ρ ⟨Gs, rfl, hG'⟩
    have gsh := sets_show p0.2 hG' mok (by omega) p4.rg
    have le1 : LeS Ss Gs := hS.mono hm2 les_nil hG'
    refine ⟨fun ρ => ρ = [some .dr, some (.v (.int k)), some (.v (websD ws)), some (.v (intsT p)), some (.v (gameD k vs)), some (.v (.tup (Ss.map intsT))), a6, a7, a8, a9, some (.v (websD ms)), some (.v (gameD k wd)), some (.v (.tup (Gs.map intsT))), none, none, none, none, none, none, none, none], ⟨_, rfl, _, rfl, k, wd, rfl, p, .inl rfl, p0.1, p0.2, wok, by omega, wp, fun S1 h1 => ?_⟩, ?_⟩
    · rw [sets_game hw hG' h1]
      refine ⟨_, rfl, rfl, gsh, fit_sets Gs 58, _, rfl, _, rfl, Ss, rfl, Gs, rfl, fun S hS' => (sets_small p0.2 hS p1 p4.rg S hS').1, le1, by rw [hS.len.1]; exact p3, rfl⟩
    rintro ρ rfl
    refine ⟨fun ρ => ∃ ts : List (List Ar), ρ = [some .dr, some (.v (.int k)), some (.v (websD ws)), some (.v (intsT p)), some (.v (gameD k vs)), some (.v (.tup (Ss.map intsT))), a6, a7, a8, a9, some (.v (websD ms)), some (.v (gameD k wd)), some (.v (.tup (Gs.map intsT))), some (.v (gameD k ts)), none, none, none, none, none, none, none] ∧ Paired (fun w v => List.Perm v (w.map Ar.turn)) wd ts, ⟨_, rfl, ⟨_, _, rfl⟩, k, wd, rfl, p0.1, p0.2, wok, by omega, fun ts h1 => ⟨ts, rfl, h1⟩⟩, ?_⟩
    rintro ρ ⟨ts, rfl, ht⟩
    have tok := ok_turned wok ht
    have tl : ts.length = wd.length := (Paired.length ht).symm
    refine ⟨fun ρ => ∃ un : List (List Ar), ρ = [some .dr, some (.v (.int k)), some (.v (websD ws)), some (.v (intsT p)), some (.v (gameD k vs)), some (.v (.tup (Ss.map intsT))), a6, a7, a8, a9, some (.v (websD ms)), some (.v (gameD k wd)), some (.v (.tup (Gs.map intsT))), some (.v (gameD k ts)), some (.v (gameD k un)), none, none, none, none, none, none] ∧ WsOk k un ∧ Paired Same (unite ws ms) un, ?_, ?_⟩
    · refine ⟨_, rfl, _, rfl, _, .inl rfl, by rw [List.length_map]; omega, by rw [rangeD_len, List.length_map]; omega, fun i acc => ∃ un : List (List Ar), acc = un.map (webD k) ∧ WsOk k un ∧ Paired Same ((unite ws ms).take i) un, ⟨[], rfl, fun w hw => (nomatch hw), .nil⟩, ?_, ?_⟩
      · rintro i d acc hd ⟨un, rfl, nok, hn'⟩
        obtain ⟨hi, rfl⟩ := rangeD_some hd
        rw [List.length_map] at hi
        obtain ⟨w, hw2⟩ : ∃ w, ws[i]? = some w := ⟨ws[i], List.getElem?_eq_getElem hi⟩
        obtain ⟨m, hm3⟩ : ∃ m, ms[i]? = some m := ⟨ms[i], List.getElem?_eq_getElem (by omega)⟩
        obtain ⟨v, hv2, pv⟩ := pd_get hv hw2
        obtain ⟨u, hu2, pu⟩ := pd_get hw hm3
        obtain ⟨t, ht2, pt⟩ := pd_get ht hu2
        have v50 : v.length ≤ 50 := by rw [List.Perm.length_eq pv]; exact p2 w (mem_get hw2)
        have t100 : t.length ≤ 100 := by rw [List.Perm.length_eq pt, List.length_map, List.Perm.length_eq pu]; exact m100 m (mem_get hm3)
        refine ⟨_, rfl, _, rfl, ⟨_, _, rfl⟩, k, i, vs, rfl, rfl, by omega, v, hv2, _, rfl, _, rfl, ⟨_, _, rfl⟩, k, i, ts, rfl, rfl, by omega, t, ht2, v, rfl, rfl, t, rfl, p0.1, p0.2, fun r hr' => hr'.elim ((vok v (mem_get hv2)).ok r) ((tok t (mem_get ht2)).ok r), by omega, fun l l1 l2 l3 l4 => ⟨un ++ [l], by simp, fun z hz => ?_, ?_⟩⟩
        · rcases List.mem_append.mp hz with hz | hz
          · exact nok z hz
          · rw [List.mem_singleton.mp hz]
            exact ⟨l3, l1, by omega⟩
        · rw [take_next (unite_get hw2 hm3)]
          refine pd_snoc hn' ?_
          have s1 : Same l (v ++ t) := md_same fun z => by
            rw [List.map_append, List.mem_append, List.mem_map, List.mem_map, List.mem_map]
            exact l2 z
          exact (same_app (same_perm pv) ((turn_same (same_perm pu)).trans (same_perm pt))).trans s1.symm
      · rintro acc ⟨un, rfl, nok, hn'⟩
        rw [rangeD_len, List.length_map, ← unite_len hm, List.take_length] at hn'
        have nl : un.length = ws.length := by rw [← Paired.length hn', unite_len hm]
        exact ⟨k, rfl, un, rfl, p0.1, p0.2, by omega, un, rfl, nok, hn'⟩
    rintro ρ ⟨un, rfl, nok, hn'⟩
    have nl : un.length = ws.length := by rw [← Paired.length hn', unite_len hm]
    have np : PosOk k un.length p := by rw [nl]; exact p4
    refine ⟨fun ρ => ∃ Bs : List (List Int), ρ = [some .dr, some (.v (.int k)), some (.v (websD ws)), some (.v (intsT p)), some (.v (gameD k vs)), some (.v (.tup (Ss.map intsT))), a6, a7, a8, a9, some (.v (websD ms)), some (.v (gameD k wd)), some (.v (.tup (Gs.map intsT))), some (.v (gameD k ts)), some (.v (gameD k un)), some (.v (.tup (Bs.map intsT))), none, none, none, none, none] ∧ SetsOk [] (unite ws ms) p Bs ∧ Shows (.tup (Bs.map intsT)), ⟨_, rfl, _, rfl, k, un, rfl, p, .inl rfl, p0.1, p0.2, nok, by omega, np, fun Bs h1 => ⟨Bs, rfl, h1.same (pd_flip (fun _ _ q => q.symm) hn'), sets_show p0.2 h1 nok (by omega) p4.rg⟩⟩, ?_⟩
    rintro ρ ⟨Bs, rfl, hB, bsh⟩
    refine ⟨fun ρ => ρ = [some .dr, some (.v (.int k)), some (.v (websD ws)), some (.v (intsT p)), some (.v (gameD k vs)), some (.v (.tup (Ss.map intsT))), a6, a7, a8, a9, some (.v (websD ms)), some (.v (gameD k wd)), some (.v (.tup (Gs.map intsT))), some (.v (gameD k ts)), some (.v (gameD k un)), some (.v (.tup (Bs.map intsT))), some (.o []), none, none, none, none], rfl, ?_⟩
    rintro ρ rfl
    refine ⟨fun ρ => ∃ a17 : Option Kn, ρ = [some .dr, some (.v (.int k)), some (.v (websD ws)), some (.v (intsT p)), some (.v (gameD k vs)), some (.v (.tup (Ss.map intsT))), a6, a7, a8, a9, some (.v (websD ms)), some (.v (gameD k wd)), some (.v (.tup (Gs.map intsT))), some (.v (gameD k ts)), some (.v (gameD k un)), some (.v (.tup (Bs.map intsT))), some (.o ((unite ws ms).map fun w => D.lst (w.map Ar.d))), a17, none, none, none], ⟨_, rfl, _, .inl rfl, by rw [List.length_map]; omega, fun i ρ => ∃ a17 : Option Kn, ρ = [some .dr, some (.v (.int k)), some (.v (websD ws)), some (.v (intsT p)), some (.v (gameD k vs)), some (.v (.tup (Ss.map intsT))), a6, a7, a8, a9, some (.v (websD ms)), some (.v (gameD k wd)), some (.v (.tup (Gs.map intsT))), some (.v (gameD k ts)), some (.v (gameD k un)), some (.v (.tup (Bs.map intsT))), some (.o (((unite ws ms).take i).map fun w => D.lst (w.map Ar.d))), a17, none, none, none], ⟨_, rfl⟩, ?_, ?_⟩, ?_⟩
    · rintro i d ρ hd ⟨a17, rfl⟩
      obtain ⟨hi, rfl⟩ := rangeD_some hd
      rw [List.length_map] at hi
      obtain ⟨w, hw2⟩ : ∃ w, ws[i]? = some w := ⟨ws[i], List.getElem?_eq_getElem hi⟩
      obtain ⟨m, hm3⟩ : ∃ m, ms[i]? = some m := ⟨ms[i], List.getElem?_eq_getElem (by omega)⟩
      refine ⟨_, rfl, _, rfl, _, rfl, _, .inl rfl, i, rfl, _, by rw [List.getElem?_map, hw2]; rfl, _, rfl, _, rfl, _, .inl rfl, i, rfl, _, by rw [List.getElem?_map, hm3]; rfl, _, .inl rfl, by rw [List.length_map]; have := (mok m (mem_get hm3)).few; omega, fun j acc => acc = (m.take j).map fun r => r.turn.d, rfl, ?_, ?_⟩
      · rintro j e acc he rfl
        obtain ⟨r, hr', rfl⟩ := get_map he
        refine ⟨_, rfl, _, .inr rfl, 1, rfl, _, rfl, _, rfl, _, .inr rfl, 0, rfl, _, rfl, _, rfl, _, .inr rfl, 2, rfl, _, rfl, _, rfl, _, .inr rfl, 3, rfl, _, rfl, ?_⟩
        show _ = _
        rw [take_next hr', List.map_append]
        rfl
      · rintro acc rfl
        have wf := (p1 w (mem_get hw2)).few
        have mf := (mok m (mem_get hm3)).few
        rw [show m.take (m.map Ar.d).length = m from by rw [List.length_map, List.take_length]]
        refine ⟨_, rfl, by rw [List.length_map, List.length_map]; omega, by rw [List.length_map, List.length_take]; omega, some (.v (.int i)), ?_⟩
        have e1 : (w ++ m.map Ar.turn).map Ar.d = w.map Ar.d ++ m.map fun r => r.turn.d := by rw [List.map_append, List.map_map]; rfl
        have e2 : ((unite ws ms).take (i + 1)).map (fun w => D.lst (w.map Ar.d)) = ((unite ws ms).take i).map (fun w => D.lst (w.map Ar.d)) ++ [D.lst (w.map Ar.d ++ m.map fun r => r.turn.d)] := by
          rw [take_next (unite_get hw2 hm3), List.map_append]
          show _ ++ [D.lst ((w ++ m.map Ar.turn).map Ar.d)] = _
          rw [e1]
        rw [e2]
        rfl
    · rintro ρ ⟨a17, rfl⟩
      rw [rangeD_len, List.length_map, ← unite_len hm, List.take_length]
      exact ⟨a17, rfl⟩
    rintro ρ ⟨a17, rfl⟩
    refine ⟨_, rfl, _, rfl, _, rfl, _, rfl, _, rfl, k, rfl, unite ws ms, rfl, p, rfl, p0.1, p0.2, unite_ok p1 mok, by rw [unite_len hm]; exact p3, by rw [unite_len hm]; exact p4, fun B2 h2 => ?_⟩
    rw [h2.uniq hB]
    have few1 := fun S hS' => (sets_small p0.2 hS p1 p4.rg S hS').1
    have few2 := fun S hS' => (sets_small p0.2 hG' mok p4.rg S hS').1
    exact ⟨rfl, .inr ⟨bsh, by rw [fit_tup]; exact fit_sets Bs 58⟩, _, rfl, _, rfl, Ss, rfl, Bs, rfl, few1, hS.mono (unite_l hm) les_nil hB, by rw [hS.len.1]; exact p3, _, rfl, _, rfl, Gs, rfl, Bs, rfl, few2, hG'.turn.mono (unite_r hm) les_nil hB, by rw [hG'.len.1]; omega, h⟩
end
end
end DL
namespace DL
open PySem L2 PyProof.Rows
noncomputable section
section
variable {T : Tx} {K : PySem.W.Frag} {mg : Str → Option Value} {base : Heap} {f f0 f1 f2 f3 f4 f5 f6 f7 f8 f9 f10 f11 f12 f13 f14 f15 f16 f17 f18 f19 : Addr} {fd fd0 fd1 fd2 fd3 fd4 fd5 fd6 fd7 fd8 fd9 fd10 fd11 fd12 fd13 fd14 fd15 fd16 fd17 fd18 fd19 : FuncData} [ci : CI T K] [n1 : NoF "turned"] [n2 : NoF "renamed"] [n3 : NoF "guards"]
def po__law_unions : List D → (D → Prop) → Prop := fun ds P => ∃ (k : Int) (ws : List (List Ar)) (p : List Int), ds = [.int k, websD ws, intsT p] ∧ (3 ≤ k ∧ k ≤ 5) ∧ WsOk k ws ∧ (∀ w ∈ ws, w.length ≤ 50) ∧ ws.length ≤ 4 ∧ PosOk k ws.length p ∧ k.toNat ^ ws.length ≤ 100 ∧ P (.bl true)
theorem sc__law_unions : FnScope ["_law_draws_here", "_law_pegs", "_law_webs_here", "_law_position_here", "_law_more_here", "_law_game", "_law_wide", "_law_room_here", "_law_kept", "_law_place", "_law_turn", "_law_other"] ["_law_draws_here", "_law_pegs", "_law_webs_here", "_law_position_here"] (defScope s__law_unions) := ⟨rfl, rfl, rfl, by decide +kernel, rfl, by decide +kernel, by decide +kernel⟩
theorem ok__law_unions (F : FnP K "_law_unions" "_law_unions" s__law_unions f fd) (Z : Free mg) (U__law_room : Use T.prog T.w K mg base "_law_room" 4 ["_law_webs_here", "_law_position_here"] (spD T po__law_room) f0 fd0) (U_in_room : Use T.prog T.w K mg base "in_room" 5 ["game", "position", "other"] (spD T po_in_room) f1 fd1) (U__law_take : Use T.prog T.w K mg base "_law_take" 1 ["_law_draws_here", "_law_many"] (spR T po__law_take) f2 fd2) (U__law_box_rows : Use T.prog T.w K mg base "_law_box_rows" 1 ["_law_box"] (spD T po__law_box_rows) f3 fd3) (U_sets_of : Use T.prog T.w K mg base "sets_of" 4 ["game", "position"] (spD T po_sets_of) f4 fd4) (U__law_built : Use T.prog T.w K mg base "_law_built" 9 ["_law_pegs", "_law_webs_here"] (spD T po__law_built) f5 fd5) (U__law_more : Use T.prog T.w K mg base "_law_more" 4 ["_law_draws_here", "_law_pegs", "_law_webs_here"] (spR T po__law_more) f6 fd6) : FnOk T.prog T.w K mg base CX0 10 f fd ["_law_draws_here", "_law_pegs", "_law_webs_here", "_law_position_here"] (spR T po__law_unions) := by
  have sc := sc__law_unions
  refine okR (T := T) F sc (fun ds P h => ?_) fun cdv A outer s H E hr => ⟨_, (pss_consJ (ps_set (i := 4) sc.nd rfl (by first | exact Or.inl rfl | exact Or.inr rfl) (pe_use U__law_more (hr.mono (by decide)) (by rfl) (pa_cons (pv 0) (pa_cons (pv 1) (pa_cons (pv 2) pa_nil)))))
        (pss_consJ (ps_set (i := 5) sc.nd rfl (by first | exact Or.inl rfl | exact Or.inr rfl) (pe_use U__law_built (hr.mono (by decide)) (by rfl) (pa_cons (pv 1) (pa_cons (pv 2) pa_nil))))
        (pss_consJ (ps_set (i := 6) sc.nd rfl (by first | exact Or.inl rfl | exact Or.inr rfl) (pe_use U__law_built (hr.mono (by decide)) (by rfl) (pa_cons (pv 1) (pa_cons (pv 4) pa_nil))))
        (pss_consJ (ps_set (i := 7) sc.nd rfl (by first | exact Or.inl rfl | exact Or.inr rfl) (pe_use U__law_room (hr.mono (by decide)) (by rfl) (pa_cons (pv 4) (pa_cons (pv 3) pa_nil))))
        (pss_consJ (ps_if (pt_cmpR (o_neK (K := K) rfl (hu64 hr)) (pe_use U__law_box_rows (hr.mono (by decide)) (by rfl) (pa_cons (pe_use U_sets_of (hr.mono (by decide)) (by rfl) (pa_cons (pv 6) (pa_cons (pv 3) pa_nil))) pa_nil)) (pv 7) (nomark _)) (pss_one (ps_ret pe_bl)) pss_nil)
        (pss_consJ (ps_own (ps_set (i := 8) sc.nd rfl (by first | exact Or.inl rfl | exact Or.inr rfl) (pe_newN (T := T))))
        (pss_consJ (ps_for PassesOwn.never rfl (pi_seqK (K := K) rfl (pv 7)) (pg_name (i := 9) sc.nd rfl (by first | exact Or.inl rfl | exact Or.inr rfl)) (pss_one (ps_asg pe_bl (pg_sub (pv 8) (pv 9) (set_dictN (T := T) ⟨rfl, rfl⟩ (hu64 hr))))))
        (pss_consJ (ps_for PassesOwn.never rfl (pi_range1 (by rfl) Z.range (pa_cons pe_int pa_nil)) (pg_name (i := 10) sc.nd rfl (by first | exact Or.inl rfl | exact Or.inr rfl)) (pss_consJ (ps_set (i := 9) sc.nd rfl (by first | exact Or.inl rfl | exact Or.inr rfl) (pe_ix (ix_seqK (K := K) rfl) (pv 7) (pe_use U__law_take (hr.mono (by decide)) (by rfl) (pa_cons (pv 0) (pa_cons (pe_callB (c_lenK2 (K := K) rfl) (by rfl) Z.len bt_len (pa_cons (pv 7) pa_nil)) pa_nil))) (fun _ _ => rfl)))
        (pss_one (ps_for PassesOwn.never rfl (pi_seqK (K := K) rfl (pe_use U__law_room (hr.mono (by decide)) (by rfl) (pa_cons (pv 2) (pa_cons (pv 9) pa_nil)))) (pg_name (i := 11) sc.nd rfl (by first | exact Or.inl rfl | exact Or.inr rfl)) (pss_consJ (ps_if (pt_borD 8 (PW.pt (pw_or (pt_cmpR (o_notInN (T := T) ⟨rfl, rfl⟩ (hu64 hr)) (pv 11) (pv 8) (by rfl)) (pw_or1 (pt_cmpR o_notTrue (pe_use U_in_room (hr.mono (by decide)) (by rfl) (pa_cons (pv 5) (pa_cons (pv 9) (pa_cons (pv 11) pa_nil)))) pe_bl (nomark _)))))) (pss_one (ps_ret pe_bl)) pss_nil)
        (pss_one (ps_if (pt_cmpR o_notTrue (pe_use U_in_room (hr.mono (by decide)) (by rfl) (pa_cons (pv 6) (pa_cons (pv 3) (pa_cons (pv 11) pa_nil)))) pe_bl (nomark _)) (pss_one (ps_ret pe_bl)) pss_nil)))))))
        (pss_one (ps_ret pe_bl)))))))))), fun ds P h => ?_⟩
  · obtain ⟨k, ws, p, rfl, _⟩ := h; rfl
  · obtain ⟨k, ws, p, rfl, p0, p1, p2, p3, p4, p5, h⟩ := h
    refine Left.mk ?_
    simp (maxSteps := 3000000) [argsOf, and_assoc, po__law_built, po__law_room, po_sets_of, po__law_more, po__law_box_rows, po__law_take, po_in_room]
    refine ⟨fun ρ => ∃ ms : List (List Ar), ρ = [some .dr, some (.v (.int k)), some (.v (websD ws)), some (.v (intsT p)), some (.v (websD ms)), none, none, none, none, none, none, none] ∧ WsOk k ms ∧ Paired (fun w v => ∀ r ∈ w, r ∈ v) ws ms, ⟨ws, rfl, p0.1, p0.2, p1, by omega, p2, fun ms h1 _ h3 => ⟨ms, rfl, h1, h3⟩⟩, ?_⟩
    rintro ρ ⟨ms, rfl, mok, hm⟩
    have ml : ms.length = ws.length := (Paired.length hm).symm
    have mp : PosOk k ms.length p := by rw [ml]; exact p4
    have hm2 : Paired Sub ws ms := pd_imp (fun w v q m hm => by
      obtain ⟨r, hr, rfl⟩ := List.mem_map.mp hm
      exact List.mem_map.mpr ⟨r, q r hr, rfl⟩) hm
    refine ⟨fun ρ => ∃ vs : List (List Ar), ρ = [some .dr, some (.v (.int k)), some (.v (websD ws)), some (.v (intsT p)), some (.v (websD ms)), some (.v (gameD k vs)), none, none, none, none, none, none] ∧ Paired PermW ws vs, ⟨_, rfl, _, rfl, k, rfl, ws, rfl, p0.1, p0.2, p1, by omega, fun vs hv => ⟨vs, rfl, hv⟩⟩, ?_⟩
    rintro ρ ⟨vs, rfl, hv⟩
    have vok := pm_ok p1 hv
    have vl : vs.length = ws.length := (Paired.length hv).symm
    refine ⟨fun ρ => ∃ wd : List (List Ar), ρ = [some .dr, some (.v (.int k)), some (.v (websD ws)), some (.v (intsT p)), some (.v (websD ms)), some (.v (gameD k vs)), some (.v (gameD k wd)), none, none, none, none, none] ∧ Paired PermW ms wd, ⟨_, rfl, _, rfl, k, rfl, ms, rfl, p0.1, p0.2, mok, by omega, fun wd h1 => ⟨wd, rfl, h1⟩⟩, ?_⟩
    rintro ρ ⟨wd, rfl, hw⟩
    have wok := pm_ok mok hw
    have wl : wd.length = ms.length := (Paired.length hw).symm
    have wp : PosOk k wd.length p := by rw [wl]; exact mp
    refine ⟨fun ρ => ∃ Gs : List (List Int), ρ = [some .dr, some (.v (.int k)), some (.v (websD ws)), some (.v (intsT p)), some (.v (websD ms)), some (.v (gameD k vs)), some (.v (gameD k wd)), some (.v (.lst ((boxR Gs).map intsT))), none, none, none, none] ∧ SetsOk [] ms p Gs, ⟨_, rfl, _, rfl, k, ms, rfl, p, rfl, p0.1, p0.2, mok.two, by omega, mp, by rw [ml]; exact p5, fun Gs h1 => ⟨Gs, rfl, h1⟩⟩, ?_⟩
    rintro ρ ⟨Gs, rfl, hG'⟩
    have few1 := fun S hS' => (sets_small p0.2 hG' mok p4.rg S hS').1
    have gl : Gs.length = ws.length := by rw [hG'.len.1]; exact ml
    have rb := room_box _ ms p Gs rfl hG'
    have bnd : (boxR Gs).Nodup := (boxR_up _ Gs rfl hG'.up).1.imp fun {a b} h e => by
      subst e
      exact List.lt_irrefl _ h
    have bp : ∀ q ∈ boxR Gs, PosOk k ws.length q := fun q hq => by
      have := ((rb q).mp (mem_boxR.mp hq)).1.pos mok.two mp
      rw [ml] at this
      exact this
    have bf : (boxR Gs).length ≤ 100 := Nat.le_trans (cube_few bnd bp) p5
    have pin : p ∈ boxR Gs := mem_boxR.mpr ((rb p).mpr ⟨.refl, .refl⟩)
    refine ⟨fun ρ => ρ = [some .dr, some (.v (.int k)), some (.v (websD ws)), some (.v (intsT p)), some (.v (websD ms)), some (.v (gameD k vs)), some (.v (gameD k wd)), some (.v (.lst ((boxR Gs).map intsT))), none, none, none, none], ⟨_, rfl, _, rfl, k, wd, rfl, p, .inl rfl, p0.1, p0.2, wok, by omega, wp, fun S1 h1 => ?_⟩, ?_⟩
    · rw [sets_game hw hG' h1]
      have fb : (D.lst ((boxR Gs).map intsT)).fit 60 = true := by rw [fit_lst]; exact fit_sets (boxR Gs) 58
      exact ⟨Gs, rfl, few1, by omega, _, rfl, .inr (.inr (.inr ⟨fb, fb⟩)), .inl ⟨rfl, rfl⟩⟩
    rintro ρ rfl
    refine ⟨fun ρ => ρ = [some .dr, some (.v (.int k)), some (.v (websD ws)), some (.v (intsT p)), some (.v (websD ms)), some (.v (gameD k vs)), some (.v (gameD k wd)), some (.v (.lst ((boxR Gs).map intsT))), some (.od [] []), none, none, none], rfl, ?_⟩
    rintro ρ rfl
    refine ⟨fun ρ => ∃ (us : List D) (a9 : Option Kn), ρ = [some .dr, some (.v (.int k)), some (.v (websD ws)), some (.v (intsT p)), some (.v (websD ms)), some (.v (gameD k vs)), some (.v (gameD k wd)), some (.v (.lst ((boxR Gs).map intsT))), some (.od ((boxR Gs).map intsT) us), a9, none, none], ⟨_, rfl, _, .inl rfl, fun i ρ => ∃ (us : List D) (a9 : Option Kn), ρ = [some .dr, some (.v (.int k)), some (.v (websD ws)), some (.v (intsT p)), some (.v (websD ms)), some (.v (gameD k vs)), some (.v (gameD k wd)), some (.v (.lst ((boxR Gs).map intsT))), some (.od (((boxR Gs).take i).map intsT) us), a9, none, none], ⟨[], _, rfl⟩, ?_, ?_⟩, ?_⟩
    · rintro i d ρ hd ⟨us, a9, rfl⟩
      obtain ⟨q, hq, rfl⟩ := get_map hd
      have hk : putK1 (((boxR Gs).take i).map intsT) (intsT q) = ((boxR Gs).take (i + 1)).map intsT := by
        unfold putK1
        rw [if_neg fun z => nodup_take bnd hq (by obtain ⟨q', z1, z2⟩ := List.mem_map.mp z; rw [← intD_inj (D.tup.inj z2)]; exact z1), take_next hq, List.map_append]
        rfl
      refine ⟨_, _, rfl, _, rfl, by rw [key_tup, Bool.and_eq_true]; exact ⟨imA_map (fun x => rfl) _, fitA_map (fun x => by simp) _⟩, by rw [List.length_map, List.length_take]; omega, putV1 (((boxR Gs).take i).map intsT) us (intsT q) (.bl true), some (.v (intsT q)), ?_⟩
      rw [hk]
      rfl
    · rintro ρ ⟨us, a9, rfl⟩
      rw [List.length_map, List.take_length]
      exact ⟨us, a9, rfl⟩
    rintro ρ ⟨us, a9, rfl⟩
    refine ⟨fun ρ => True, ⟨fun i ρ => ∃ (a9 a10 a11 : Option Kn), ρ = [some .dr, some (.v (.int k)), some (.v (websD ws)), some (.v (intsT p)), some (.v (websD ms)), some (.v (gameD k vs)), some (.v (gameD k wd)), some (.v (.lst ((boxR Gs).map intsT))), some (.od ((boxR Gs).map intsT) us), a9, a10, a11], ⟨_, _, _, rfl⟩, ?_, fun ρ _ => trivial⟩, fun ρ _ => h⟩
    rintro i d ρ hd ⟨a9, a10, a11, rfl⟩
    refine ⟨fun ρ => ∃ q : List Int, ρ = [some .dr, some (.v (.int k)), some (.v (websD ws)), some (.v (intsT p)), some (.v (websD ms)), some (.v (gameD k vs)), some (.v (gameD k wd)), some (.v (.lst ((boxR Gs).map intsT))), some (.od ((boxR Gs).map intsT) us), some (.v (intsT q)), some (.v d), a11] ∧ q ∈ boxR Gs, ⟨_, rfl, rfl, _, rfl, _, .inl rfl, by rw [List.length_map]; exact List.length_pos_of_mem pin, fun z z1 z2 => ?_⟩, ?_⟩
    · rw [List.length_map] at z2
      have hz : z.toNat < (boxR Gs).length := by omega
      exact ⟨_, .inl rfl, z.toNat, by omega, _, by rw [List.getElem?_map, List.getElem?_eq_getElem hz]; rfl, _, rfl, List.getElem_mem hz⟩
    rintro ρ ⟨q, rfl, hq⟩
    have qp : PosOk k ws.length q := bp q hq
    refine ⟨_, rfl, _, rfl, k, ws, rfl, q, rfl, p0.1, p0.2, p1.two, p3, qp, p5, fun Ts hT => ⟨fun j ρ => ∃ a11 : Option Kn, ρ = [some .dr, some (.v (.int k)), some (.v (websD ws)), some (.v (intsT p)), some (.v (websD ms)), some (.v (gameD k vs)), some (.v (gameD k wd)), some (.v (.lst ((boxR Gs).map intsT))), some (.od ((boxR Gs).map intsT) us), some (.v (intsT q)), some (.v d), a11], ⟨a11, rfl⟩, ?_, ?_⟩⟩
    · rintro j e ρ r hr' rfl ⟨a11, rfl⟩
      have ri : Inb r Ts := mem_boxR.mp (mem_get hr')
      obtain ⟨g1, g2⟩ := (room_box _ ws q Ts rfl hT r).mp ri
      have rp := g1.pos p1.two qp
      obtain ⟨q1, q2⟩ := (rb q).mp (mem_boxR.mp hq)
      have rG : Inb r Gs := (rb r).mpr ⟨q1.trans (g1.mono hm2), (g2.mono hm2).trans q2⟩
      refine ⟨fun ρ => ρ = [some .dr, some (.v (.int k)), some (.v (websD ws)), some (.v (intsT p)), some (.v (websD ms)), some (.v (gameD k vs)), some (.v (gameD k wd)), some (.v (.lst ((boxR Gs).map intsT))), some (.od ((boxR Gs).map intsT) us), some (.v (intsT q)), some (.v d), some (.v (intsT r))], ⟨_, _, rfl, _, rfl, _, rfl, _, ⟨_, rfl⟩, by rw [key_tup, Bool.and_eq_true]; exact ⟨imA_map (fun x => rfl) _, fitA_map (fun x => by simp) _⟩, .inl ⟨List.mem_map.mpr ⟨r, mem_boxR.mpr rG, rfl⟩, _, rfl, ?_⟩⟩, ?_⟩
      · exact ⟨_, rfl, _, rfl, k, vs, rfl, q, .inl rfl, r, .inl rfl, p0.1, p0.2, vok, by omega, by rw [vl]; exact qp, by rw [vl]; exact rp, fun S1 h1 => .inl ⟨by rw [sets_game hv hT h1]; exact in_box ri, rfl⟩⟩
      · rintro ρ rfl
        exact ⟨_, rfl, _, rfl, _, rfl, k, wd, rfl, p, .inl rfl, r, .inl rfl, p0.1, p0.2, wok, by omega, wp, by rw [wl, ml]; exact rp, fun S1 h1 => .inl ⟨by rw [sets_game hw hG' h1]; exact in_box rG, _, rfl⟩⟩
    · rintro ρ ⟨a11, rfl⟩
      exact ⟨_, _, _, rfl⟩
end
end
end DL
namespace DL
open PySem L2 PyProof.Rows
noncomputable section
section
variable {T : Tx} {K : PySem.W.Frag} {mg : Str → Option Value} {base : Heap} {f f0 f1 f2 f3 f4 f5 f6 f7 f8 f9 f10 f11 f12 f13 f14 f15 f16 f17 f18 f19 : Addr} {fd fd0 fd1 fd2 fd3 fd4 fd5 fd6 fd7 fd8 fd9 fd10 fd11 fd12 fd13 fd14 fd15 fd16 fd17 fd18 fd19 : FuncData} [ci : CI T K] [n1 : NoF "turned"] [n2 : NoF "renamed"] [n3 : NoF "guards"]
theorem sc_law : FnScope ["_law_script", "_law_draws_here", "_law_most", "_law_size_here", "_law_pegs", "_law_webs_here", "_law_position_here", "_law_tall", "_law_turn", "_law_place"] ["_law_script"] (defScope s_law) := ⟨rfl, rfl, rfl, by decide +kernel, rfl, by decide +kernel, by decide +kernel⟩
theorem ok_law (F : FnP K "law" "law" s_law f fd) (Z : Free mg) (U__law_others_agree : UseG T.prog T.w K mg base "_law_others_agree" 11 ["_law_draws_here", "_law_pegs", "_law_webs_here", "_law_position_here"] (spR T po__law_others_agree) f0 fd0) (U__law_tall_position : Use T.prog T.w K mg base "_law_tall_position" 2 ["_law_draws_here", "_law_pegs", "_law_discs"] (spR T po__law_tall_position) f1 fd1) (U__law_many_webs : Use T.prog T.w K mg base "_law_many_webs" 4 ["_law_draws_here", "_law_pegs"] (spR T po__law_many_webs) f2 fd2) (U__law_unions : Use T.prog T.w K mg base "_law_unions" 10 ["_law_draws_here", "_law_pegs", "_law_webs_here", "_law_position_here"] (spR T po__law_unions) f3 fd3) (U__law_position : Use T.prog T.w K mg base "_law_position" 2 ["_law_draws_here", "_law_pegs", "_law_discs"] (spR T po__law_position) f4 fd4) (U__law_webs : Use T.prog T.w K mg base "_law_webs" 4 ["_law_draws_here", "_law_pegs", "_law_discs", "_law_kind_here"] (spR T po__law_webs) f5 fd5) (U__law_kind : Use T.prog T.w K mg base "_law_kind" 2 ["_law_draws_here"] (spR T po__law_kind) f6 fd6) (U__law_sizes : Use T.prog T.w K mg base "_law_sizes" 2 ["_law_draws_here", "_law_most"] (spR T po__law_sizes) f7 fd7) (U__law_take : Use T.prog T.w K mg base "_law_take" 1 ["_law_draws_here", "_law_many"] (spR T po__law_take) f8 fd8) (U__law_draws : Use T.prog T.w K mg base "_law_draws" 1 ["_law_script"] (spS T K po__law_draws) f9 fd9) : FnG T.prog T.w K mg base 12 f fd ["_law_script"] (spLaw K) := by
  have sc := sc_law
  refine okLaw (T := T) (post := po__law_draws) F sc rfl (by decide) (fun ns _ d hd => hd) fun cdv A outer s H E hG hr => ⟨_, (pss_cons (ps_set (i := 1) sc.nd rfl (by first | exact Or.inl rfl | exact Or.inr rfl) (pe_use U__law_draws (hr.mono (by decide)) (by rfl) (pa_cons (pv 0) pa_nil)))
        (pss_cons (ps_set (i := 2) sc.nd rfl (by first | exact Or.inl rfl | exact Or.inr rfl) (pe_ix (ix_seqK (K := K) rfl) (pe_lst (pa_cons pe_int (pa_cons pe_int (pa_cons pe_int (pa_cons pe_int pa_nil))))) (pe_use U__law_take (hr.mono (by decide)) (by rfl) (pa_cons (pv 1) (pa_cons pe_int pa_nil))) (fun _ _ => rfl)))
        (pss_cons (ps_set (i := 3) sc.nd rfl (by first | exact Or.inl rfl | exact Or.inr rfl) (pe_use U__law_sizes (hr.mono (by decide)) (by rfl) (pa_cons (pv 1) (pa_cons (pv 2) pa_nil))))
        (pss_cons (ps_set (i := 4) sc.nd rfl (by first | exact Or.inl rfl | exact Or.inr rfl) (pe_ix (ix_seqK (K := K) rfl) (pv 3) pe_int (fun _ _ => rfl)))
        (pss_cons (ps_set (i := 5) sc.nd rfl (by first | exact Or.inl rfl | exact Or.inr rfl) (pe_use U__law_webs (hr.mono (by decide)) (by rfl) (pa_cons (pv 1) (pa_cons (pv 4) (pa_cons (pe_ix (ix_seqK (K := K) rfl) (pv 3) pe_int (fun _ _ => rfl)) (pa_cons (pe_use U__law_kind (hr.mono (by decide)) (by rfl) (pa_cons (pv 1) pa_nil)) pa_nil))))))
        (pss_cons (ps_set (i := 6) sc.nd rfl (by first | exact Or.inl rfl | exact Or.inr rfl) (pe_use U__law_position (hr.mono (by decide)) (by rfl) (pa_cons (pv 1) (pa_cons (pv 4) (pa_cons (pe_ix (ix_seqK (K := K) rfl) (pv 3) pe_int (fun _ _ => rfl)) pa_nil)))))
        (pss_consJ (ps_if (PW.pt (pw_or (pt_not (pt_val (pe_use U__law_unions (hr.mono (by decide)) (by rfl) (pa_cons (pv 1) (pa_cons (pv 4) (pa_cons (pv 5) (pa_cons (pv 6) pa_nil))))))) (pw_or1 (pt_not (pt_val (pe_useG U__law_others_agree hG (hr.mono (by decide)) (by rfl) (pa_cons (pv 1) (pa_cons (pv 4) (pa_cons (pv 5) (pa_cons (pv 6) pa_nil)))))))))) (pss_one (ps_ret pe_bl)) pss_nil)
        (pss_cons (ps_set (i := 7) sc.nd rfl (by first | exact Or.inl rfl | exact Or.inr rfl) (pe_use U__law_many_webs (hr.mono (by decide)) (by rfl) (pa_cons (pv 1) (pa_cons (pv 4) pa_nil))))
        (pss_cons (ps_for PassesOwn.never rfl (pi_range1 (by rfl) Z.range (pa_cons pe_int pa_nil)) (pg_name (i := 8) sc.nd rfl (by first | exact Or.inl rfl | exact Or.inr rfl)) (pss_cons (ps_set (i := 9) sc.nd rfl (by first | exact Or.inl rfl | exact Or.inr rfl) (pe_use U__law_tall_position (hr.mono (by decide)) (by rfl) (pa_cons (pv 1) (pa_cons (pv 4) (pa_cons (pe_callB (c_lenK2 (K := K) rfl) (by rfl) Z.len bt_len (pa_cons (pv 7) pa_nil)) pa_nil)))))
        (pss_one (ps_if (pt_not (pt_val (pe_useG U__law_others_agree hG (hr.mono (by decide)) (by rfl) (pa_cons (pv 1) (pa_cons (pv 4) (pa_cons (pv 7) (pa_cons (pv 9) pa_nil))))))) (pss_one (ps_ret pe_bl)) pss_nil))))
        (pss_one (ps_ret pe_bl))))))))))), ?_⟩
  refine Left.mk ?_
  simp (maxSteps := 3000000) [and_assoc, po__law_take, po__law_sizes, po__law_webs, po__law_kind, po__law_position, po__law_unions, po__law_others_agree, po__law_many_webs, po__law_tall_position]
  intro z z1 z2
  have key : ∃ x : Nat, z = x ∧ ∃ m : Int, [D.int 27, D.int 9, D.int 27, D.int 81][x]? = some (.int m) ∧ m ≤ 100 := by
    refine ⟨z.toNat, by omega, ?_⟩
    have : z.toNat = 0 ∨ z.toNat = 1 ∨ z.toNat = 2 ∨ z.toNat = 3 := by omega
    rcases this with e | e | e | e <;> rw [e] <;> exact ⟨_, rfl, by decide⟩
  obtain ⟨x, rfl, m, hx, hm⟩ := key
  refine ⟨x, rfl, _, hx, m, rfl, hm, fun k n k3 k5 n4 kn => ⟨0, rfl, _, rfl, 1, rfl, _, rfl, k, rfl, n, rfl, k3, k5, by omega, by omega, fun ws hw h50 hl => ?_⟩⟩
  have hl : ws.length = n := by omega
  refine ⟨1, rfl, _, rfl, k, rfl, n, rfl, k3, k5, by omega, by omega, fun p hp => ?_⟩
  have hp : PosOk k ws.length p := by
    rw [hl]
    exact hp
  have pw : k.toNat ^ ws.length ≤ 100 := by
    have e : ((k.toNat ^ n : Nat) : Int) = k ^ n := by
      rw [Int.natCast_pow, Int.toNat_of_nonneg (by omega)]
    rw [hl]
    omega
  refine ⟨fun ρ => ∃ (a2 a3 a5 a6 : Option Kn), ρ = [none, some .dr, a2, a3, some (.v (.int k)), a5, a6, none, none, none], ⟨k, rfl, ws, rfl, p, rfl, k3, k5, hw, h50, by omega, hp, pw, k, rfl, ws, rfl, p, rfl, k3, k5, hw, h50, by omega, hp, _, _, _, _, rfl⟩, ?_⟩
  rintro ρ ⟨a2, a3, a5, a6, rfl⟩
  refine ⟨rfl, _, rfl, k, rfl, k3, k5, fun tw tok t50 tl => ⟨fun i ρ => ∃ (a8 a9 : Option Kn), ρ = [none, some .dr, a2, a3, some (.v (.int k)), a5, a6, some (.v (websD tw)), a8, a9], ⟨_, _, rfl⟩, ?_⟩⟩
  rintro i d ρ hd ⟨a8, a9, rfl⟩
  refine ⟨rfl, _, rfl, _, rfl, _, .inl rfl, k, rfl, k3, k5, by rw [List.length_map]; omega, fun q hq => ?_⟩
  have hq : PosOk k tw.length q := by
    rw [List.length_map] at hq
    exact hq
  exact ⟨rfl, _, rfl, _, rfl, _, rfl, k, rfl, tw, rfl, q, rfl, k3, k5, tok, t50, tl, hq, some (.v d), some (.v (intsT q)), rfl⟩
end
end
end DL
set_option maxHeartbeats 0
namespace DL
open PySem L2 PyProof.Rows
noncomputable section
abbrev lawP : Program := PySem.W.OpenLaw.prog PySem.Challenge.rw_pegwebs_k13_whole_more_arrows
abbrev lawT (w : World) (K : PySem.W.Frag) : Tx := ⟨lawP, w, He.ga K "Web", He.ga K "Game"⟩
structure Vx (w : World) (K : PySem.W.Frag) (h : Heap) (mg : Str → Option Value) : Prop where
  X : K.In h
  G : h.Ns mainGlobals mg
  c : He.SaysD hdFa hdFn K
  ex : hdEx K = true
instance : NoF "turned" := NoF.of (by decide +kernel) (by decide +kernel) (by decide +kernel) (by decide +kernel) (by decide +kernel)
instance : NoF "renamed" := NoF.of (by decide +kernel) (by decide +kernel) (by decide +kernel) (by decide +kernel) (by decide +kernel)
instance : NoF "guards" := NoF.of (by decide +kernel) (by decide +kernel) (by decide +kernel) (by decide +kernel) (by decide +kernel)
section
variable {w : World} {K : PySem.W.Frag} {h : Heap} {mg : Str → Option Value}
theorem Vx.fr (V : Vx w K h mg) : Free mg := ⟨He.free_ok V.X V.G (V.c.fact 76 (f := .free "len") rfl), He.free_ok V.X V.G (V.c.fact 77 (f := .free "list") rfl), He.free_ok V.X V.G (V.c.fact 78 (f := .free "tuple") rfl), He.free_ok V.X V.G (V.c.fact 79 (f := .free "int") rfl), He.free_ok V.X V.G (V.c.fact 80 (f := .free "bool") rfl), He.free_ok V.X V.G (V.c.fact 81 (f := .free "sorted") rfl), He.free_ok V.X V.G (V.c.fact 82 (f := .free "isinstance") rfl), He.free_ok V.X V.G (V.c.fact 83 (f := .free "set") rfl), He.free_ok V.X V.G (V.c.fact 84 (f := .free "range") rfl), He.free_ok V.X V.G (V.c.fact 85 (f := .free "enumerate") rfl), He.free_ok V.X V.G (V.c.fact 86 (f := .free "zip") rfl), He.free_ok V.X V.G (V.c.fact 87 (f := .free "all") rfl), He.free_ok V.X V.G (V.c.fact 88 (f := .free "min") rfl), He.free_ok V.X V.G (V.c.fact 89 (f := .free "repr") rfl)⟩
theorem Vx.gW (V : Vx w K h mg) : mg "Web" = some (.ref (lawT w K).CW) := He.glo_ok V.X V.G (V.c.fact 55 (f := .glo "Web") rfl)
theorem Vx.gG (V : Vx w K h mg) : mg "Game" = some (.ref (lawT w K).CG) := He.glo_ok V.X V.G (V.c.fact 58 (f := .glo "Game") rfl)
theorem Vx.ci (V : Vx w K h mg) : CI (lawT w K) K := by
  obtain ⟨e1, e⟩ := He.ba V.ex
  obtain ⟨e2, e⟩ := He.ba e
  obtain ⟨e3, e⟩ := He.ba e
  obtain ⟨e4, e⟩ := He.ba e
  obtain ⟨e5, e⟩ := He.ba e
  obtain ⟨e6, e⟩ := He.ba e
  exact { cW := He.cls_ok (V.c.fact 56 (f := .cls "Web") rfl), cG := He.cls_ok (V.c.fact 59 (f := .cls "Game") rfl), nW := fun f hf => by
            rcases hf with rfl | rfl | rfl
            · exact He.noat_ok (V.c.fact 61 (f := .noat "Web" "pegs") rfl)
            · exact He.noat_ok (V.c.fact 62 (f := .noat "Web" "_costs") rfl)
            · exact He.noat_ok (V.c.fact 63 (f := .noat "Web" "arrows") rfl)
          nG := fun f hf => by
            rcases hf with rfl | rfl | rfl
            · exact He.noat_ok (V.c.fact 64 (f := .noat "Game" "pegs") rfl)
            · exact He.noat_ok (V.c.fact 65 (f := .noat "Game" "webs") rfl)
            · exact He.noat_ok (V.c.fact 66 (f := .noat "Game" "discs") rfl)
          aW := He.eqO_ok e1, aG := He.eqO_ok e2, hn := He.eqO_ok e3, tk := of_decide_eq_true e4, mW := of_decide_eq_true e5, mG := of_decide_eq_true e6 }
theorem Vx.ixF (V : Vx w K h mg) : PySem.W.fnIn K (He.ma K (He.ga K "Game") "__getitem__") = true := (He.ba (He.ba (He.ba (He.ba (He.ba (He.ba (He.ba V.ex).2).2).2).2).2).2).1
theorem Vx.orF (V : Vx w K h mg) : PySem.W.selfFirst K (He.ga K "Web") = true := (He.ba (He.ba (He.ba (He.ba (He.ba (He.ba (He.ba V.ex).2).2).2).2).2).2).2
theorem Vx.u_is_integer (V : Vx w K h mg) (base : Heap) : ∃ fd, Use lawP w K mg base "is_integer" 1 ["thing"] (spD (lawT w K) po_is_integer) (He.ga K "is_integer") fd := by
  haveI := V.ci
  obtain ⟨fd, F⟩ := V.c.def_ 0 (d := d_is_integer) rfl
  have H := ok_is_integer (T := lawT w K) (mg := mg) (base := base) F V.fr
  exact ⟨fd, H, He.glo_ok V.X V.G (V.c.fact 0 (f := .glo "is_integer") rfl), F.kp, F.bindsN fun _ _ _ _ _ _ us hl => match us, hl with | [_], _ => rfl⟩
theorem Vx.u_is_below (V : Vx w K h mg) (base : Heap) : ∃ fd, Use lawP w K mg base "is_below" 2 ["thing", "limit"] (spD (lawT w K) po_is_below) (He.ga K "is_below") fd := by
  haveI := V.ci
  obtain ⟨fd, F⟩ := V.c.def_ 1 (d := d_is_below) rfl
  obtain ⟨fd_is_integer, U_is_integer⟩ := V.u_is_integer base
  have H := ok_is_below (T := lawT w K) (mg := mg) (base := base) F V.fr U_is_integer
  exact ⟨fd, H, He.glo_ok V.X V.G (V.c.fact 1 (f := .glo "is_below") rfl), F.kp, F.bindsN fun _ _ _ _ _ _ us hl => match us, hl with | [_, _], _ => rfl⟩
theorem Vx.u_check_pegs (V : Vx w K h mg) (base : Heap) : ∃ fd, Use lawP w K mg base "check_pegs" 2 ["pegs"] (spD (lawT w K) po_check_pegs) (He.ga K "check_pegs") fd := by
  haveI := V.ci
  obtain ⟨fd, F⟩ := V.c.def_ 2 (d := d_check_pegs) rfl
  obtain ⟨fd_is_integer, U_is_integer⟩ := V.u_is_integer base
  have H := ok_check_pegs (T := lawT w K) (mg := mg) (base := base) F V.fr U_is_integer
  exact ⟨fd, H, He.glo_ok V.X V.G (V.c.fact 2 (f := .glo "check_pegs") rfl), F.kp, F.bindsN fun _ _ _ _ _ _ us hl => match us, hl with | [_], _ => rfl⟩
theorem Vx.u_meets (V : Vx w K h mg) (base : Heap) : ∃ fd, Use lawP w K mg base "meets" 1 ["guard", "pegs"] (spD (lawT w K) po_meets) (He.ga K "meets") fd := by
  haveI := V.ci
  obtain ⟨fd, F⟩ := V.c.def_ 3 (d := d_meets) rfl
  have H := ok_meets (T := lawT w K) (mg := mg) (base := base) F V.fr
  exact ⟨fd, H, He.glo_ok V.X V.G (V.c.fact 3 (f := .glo "meets") rfl), F.kp, F.bindsN fun _ _ _ _ _ _ us hl => match us, hl with | [_, _], _ => rfl⟩
theorem Vx.u_set_of (V : Vx w K h mg) (base : Heap) : ∃ fd, Use lawP w K mg base "set_of" 3 ["thing", "limit"] (spD (lawT w K) po_set_of) (He.ga K "set_of") fd := by
  haveI := V.ci
  obtain ⟨fd, F⟩ := V.c.def_ 4 (d := d_set_of) rfl
  obtain ⟨fd_is_below, U_is_below⟩ := V.u_is_below base
  have H := ok_set_of (T := lawT w K) (mg := mg) (base := base) F V.fr U_is_below
  exact ⟨fd, H, He.glo_ok V.X V.G (V.c.fact 4 (f := .glo "set_of") rfl), F.kp, F.bindsN fun _ _ _ _ _ _ us hl => match us, hl with | [_, _], _ => rfl⟩
theorem Vx.u_mark_of (V : Vx w K h mg) (base : Heap) : ∃ fd, Use lawP w K mg base "mark_of" 4 ["thing", "pegs"] (spD (lawT w K) po_mark_of) (He.ga K "mark_of") fd := by
  haveI := V.ci
  obtain ⟨fd, F⟩ := V.c.def_ 5 (d := d_mark_of) rfl
  obtain ⟨fd_set_of, U_set_of⟩ := V.u_set_of base
  obtain ⟨fd_is_below, U_is_below⟩ := V.u_is_below base
  have H := ok_mark_of (T := lawT w K) (mg := mg) (base := base) F V.fr U_set_of U_is_below
  exact ⟨fd, H, He.glo_ok V.X V.G (V.c.fact 5 (f := .glo "mark_of") rfl), F.kp, F.bindsN fun _ _ _ _ _ _ us hl => match us, hl with | [_, _], _ => rfl⟩
theorem Vx.u_arrow_of (V : Vx w K h mg) (base : Heap) : ∃ fd, Use lawP w K mg base "arrow_of" 5 ["thing", "pegs"] (spD (lawT w K) po_arrow_of) (He.ga K "arrow_of") fd := by
  haveI := V.ci
  obtain ⟨fd, F⟩ := V.c.def_ 6 (d := d_arrow_of) rfl
  obtain ⟨t_MOST_COST, m_MOST_COST⟩ := He.int_ok V.X V.G (V.c.fact 74 (f := .int "MOST_COST" (10 ^ 60)) rfl)
  obtain ⟨fd_is_integer, U_is_integer⟩ := V.u_is_integer base
  obtain ⟨fd_mark_of, U_mark_of⟩ := V.u_mark_of base
  have H := ok_arrow_of (T := lawT w K) (mg := mg) (base := base) F V.fr m_MOST_COST U_is_integer U_mark_of
  exact ⟨fd, H, He.glo_ok V.X V.G (V.c.fact 6 (f := .glo "arrow_of") rfl), F.kp, F.bindsN fun _ _ _ _ _ _ us hl => match us, hl with | [_, _], _ => rfl⟩
theorem Vx.u_check_names (V : Vx w K h mg) (base : Heap) : ∃ fd, Use lawP w K mg base "check_names" 3 ["names", "pegs"] (spD (lawT w K) po_check_names) (He.ga K "check_names") fd := by
  haveI := V.ci
  obtain ⟨fd, F⟩ := V.c.def_ 7 (d := d_check_names) rfl
  obtain ⟨fd_is_below, U_is_below⟩ := V.u_is_below base
  have H := ok_check_names (T := lawT w K) (mg := mg) (base := base) F V.fr U_is_below
  exact ⟨fd, H, He.glo_ok V.X V.G (V.c.fact 7 (f := .glo "check_names") rfl), F.kp, F.bindsN fun _ _ _ _ _ _ us hl => match us, hl with | [_, _], _ => rfl⟩
theorem Vx.u_costs_of (V : Vx w K h mg) (base : Heap) : ∃ fd, Use lawP w K mg base "costs_of" 6 ["arrows", "pegs"] (spD (lawT w K) po_costs_of) (He.ga K "costs_of") fd := by
  haveI := V.ci
  obtain ⟨fd, F⟩ := V.c.def_ 8 (d := d_costs_of) rfl
  obtain ⟨fd_arrow_of, U_arrow_of⟩ := V.u_arrow_of base
  have H := ok_costs_of (T := lawT w K) (mg := mg) (base := base) F V.fr U_arrow_of
  exact ⟨fd, H, He.glo_ok V.X V.G (V.c.fact 8 (f := .glo "costs_of") rfl), F.kp, F.bindsN fun _ _ _ _ _ _ us hl => match us, hl with | [_, _], _ => rfl⟩
theorem Vx.u_Web___init__ (V : Vx w K h mg) (base : Heap) : ∃ fd, UseI lawP w K mg base (lawT w K).CW 7 ["self", "pegs", "arrows"] (spI (lawT w K) (lawT w K).CW po_Web___init__) (He.ma K (He.ga K "Web") "__init__") fd := by
  haveI := V.ci
  obtain ⟨fd, F⟩ := V.c.def_ 9 (d := d_Web___init__) rfl
  obtain ⟨fd_costs_of, U_costs_of⟩ := V.u_costs_of base
  obtain ⟨fd_check_pegs, U_check_pegs⟩ := V.u_check_pegs base
  have H := ok_Web___init__ (T := lawT w K) (mg := mg) (base := base) F V.fr U_costs_of U_check_pegs
  exact ⟨fd, H, He.mkr_ok (V.c.fact 57 (f := .mkr "Web") rfl), F.bindsN fun _ _ _ _ _ _ us hl => match us, hl with | [_, _, _], _ => rfl⟩
theorem Vx.u_least_of (V : Vx w K h mg) (base : Heap) : ∃ fd, Use lawP w K mg base "least_of" 1 ["arrows", "others"] (spD (lawT w K) po_least_of) (He.ga K "least_of") fd := by
  haveI := V.ci
  obtain ⟨fd, F⟩ := V.c.def_ 10 (d := d_least_of) rfl
  have H := ok_least_of (T := lawT w K) (mg := mg) (base := base) F V.fr
  exact ⟨fd, H, He.glo_ok V.X V.G (V.c.fact 9 (f := .glo "least_of") rfl), F.kp, F.bindsN fun _ _ _ _ _ _ us hl => match us, hl with | [_, _], _ => rfl⟩
theorem Vx.u_Web_turned (V : Vx w K h mg) (base : Heap) : ∃ fd, UseM lawP w K mg base (lawT w K).CW "turned" 9 ["self"] (spD (lawT w K) po_Web_turned) (He.ma K (He.ga K "Web") "turned") fd := by
  haveI := V.ci
  obtain ⟨fd, F⟩ := V.c.def_ 11 (d := d_Web_turned) rfl
  obtain ⟨fd_Web___init__, U_Web___init__⟩ := V.u_Web___init__ base
  have H := ok_Web_turned (T := lawT w K) (mg := mg) (base := base) F V.fr V.gW U_Web___init__
  exact ⟨fd, H, He.meth_ok (V.c.fact 67 (f := .meth "Web" "turned") rfl), F.bindsN fun _ _ _ _ _ _ us hl => match us, hl with | [_], _ => rfl⟩
theorem Vx.u_Web_renamed (V : Vx w K h mg) (base : Heap) : ∃ fd, UseM lawP w K mg base (lawT w K).CW "renamed" 9 ["self", "names"] (spD (lawT w K) po_Web_renamed) (He.ma K (He.ga K "Web") "renamed") fd := by
  haveI := V.ci
  obtain ⟨fd, F⟩ := V.c.def_ 12 (d := d_Web_renamed) rfl
  obtain ⟨fd_Web___init__, U_Web___init__⟩ := V.u_Web___init__ base
  obtain ⟨fd_check_names, U_check_names⟩ := V.u_check_names base
  have H := ok_Web_renamed (T := lawT w K) (mg := mg) (base := base) F V.fr V.gW U_Web___init__ U_check_names
  exact ⟨fd, H, He.meth_ok (V.c.fact 68 (f := .meth "Web" "renamed") rfl), F.bindsN fun _ _ _ _ _ _ us hl => match us, hl with | [_, _], _ => rfl⟩
theorem Vx.u_Web___or__ (V : Vx w K h mg) (base : Heap) : ∃ fd, UseM lawP w K mg base (lawT w K).CW "__or__" 9 ["self", "other"] (spD (lawT w K) po_Web___or__) (He.ma K (He.ga K "Web") "__or__") fd := by
  haveI := V.ci
  obtain ⟨fd, F⟩ := V.c.def_ 13 (d := d_Web___or__) rfl
  obtain ⟨fd_Web___init__, U_Web___init__⟩ := V.u_Web___init__ base
  obtain ⟨fd_least_of, U_least_of⟩ := V.u_least_of base
  have H := ok_Web___or__ (T := lawT w K) (mg := mg) (base := base) F V.fr V.gW U_Web___init__ U_least_of
  exact ⟨fd, H, He.meth_ok (V.c.fact 69 (f := .meth "Web" "__or__") rfl), F.bindsN fun _ _ _ _ _ _ us hl => match us, hl with | [_, _], _ => rfl⟩
theorem Vx.u_Game___init__ (V : Vx w K h mg) (base : Heap) : ∃ fd, UseI lawP w K mg base (lawT w K).CG 3 ["self", "pegs", "webs"] (spI (lawT w K) (lawT w K).CG po_Game___init__) (He.ma K (He.ga K "Game") "__init__") fd := by
  haveI := V.ci
  obtain ⟨fd, F⟩ := V.c.def_ 14 (d := d_Game___init__) rfl
  obtain ⟨t_MOST_DISCS, m_MOST_DISCS⟩ := He.int_ok V.X V.G (V.c.fact 75 (f := .int "MOST_DISCS" 40) rfl)
  obtain ⟨fd_check_pegs, U_check_pegs⟩ := V.u_check_pegs base
  have H := ok_Game___init__ (T := lawT w K) (mg := mg) (base := base) F V.fr V.gW m_MOST_DISCS U_check_pegs
  exact ⟨fd, H, He.mkr_ok (V.c.fact 60 (f := .mkr "Game") rfl), F.bindsN fun _ _ _ _ _ _ us hl => match us, hl with | [_, _, _], _ => rfl⟩
theorem Vx.u_Game_turned (V : Vx w K h mg) (base : Heap) : ∃ fd, UseM lawP w K mg base (lawT w K).CG "turned" 10 ["self"] (spD (lawT w K) po_Game_turned) (He.ma K (He.ga K "Game") "turned") fd := by
  haveI := V.ci
  obtain ⟨fd, F⟩ := V.c.def_ 15 (d := d_Game_turned) rfl
  obtain ⟨fd_Game___init__, U_Game___init__⟩ := V.u_Game___init__ base
  obtain ⟨fd_Web_turned, U_Web_turned⟩ := V.u_Web_turned base
  have H := ok_Game_turned (T := lawT w K) (mg := mg) (base := base) F V.fr V.gG U_Game___init__ U_Web_turned
  exact ⟨fd, H, He.meth_ok (V.c.fact 70 (f := .meth "Game" "turned") rfl), F.bindsN fun _ _ _ _ _ _ us hl => match us, hl with | [_], _ => rfl⟩
theorem Vx.u_Game_renamed (V : Vx w K h mg) (base : Heap) : ∃ fd, UseM lawP w K mg base (lawT w K).CG "renamed" 10 ["self", "names"] (spD (lawT w K) po_Game_renamed) (He.ma K (He.ga K "Game") "renamed") fd := by
  haveI := V.ci
  obtain ⟨fd, F⟩ := V.c.def_ 16 (d := d_Game_renamed) rfl
  obtain ⟨fd_Game___init__, U_Game___init__⟩ := V.u_Game___init__ base
  obtain ⟨fd_Web_renamed, U_Web_renamed⟩ := V.u_Web_renamed base
  obtain ⟨fd_check_names, U_check_names⟩ := V.u_check_names base
  have H := ok_Game_renamed (T := lawT w K) (mg := mg) (base := base) F V.fr V.gG U_Game___init__ U_Web_renamed U_check_names
  exact ⟨fd, H, He.meth_ok (V.c.fact 71 (f := .meth "Game" "renamed") rfl), F.bindsN fun _ _ _ _ _ _ us hl => match us, hl with | [_, _], _ => rfl⟩
theorem Vx.u_Game___getitem__ (V : Vx w K h mg) (base : Heap) : ∃ fd, UseM lawP w K mg base (lawT w K).CG "__getitem__" 3 ["self", "disc"] (spD (lawT w K) po_Game___getitem__) (He.ma K (He.ga K "Game") "__getitem__") fd := by
  haveI := V.ci
  obtain ⟨fd, F⟩ := V.c.def_ 17 (d := d_Game___getitem__) rfl
  obtain ⟨fd_is_below, U_is_below⟩ := V.u_is_below base
  have H := ok_Game___getitem__ (T := lawT w K) (mg := mg) (base := base) F V.fr U_is_below
  exact ⟨fd, H, He.meth_ok (V.c.fact 72 (f := .meth "Game" "__getitem__") rfl), F.bindsN fun _ _ _ _ _ _ us hl => match us, hl with | [_, _], _ => rfl⟩
theorem Vx.u_check_game (V : Vx w K h mg) (base : Heap) : ∃ fd, Use lawP w K mg base "check_game" 1 ["game"] (spD (lawT w K) po_check_game) (He.ga K "check_game") fd := by
  haveI := V.ci
  obtain ⟨fd, F⟩ := V.c.def_ 18 (d := d_check_game) rfl
  have H := ok_check_game (T := lawT w K) (mg := mg) (base := base) F V.fr V.gG
  exact ⟨fd, H, He.glo_ok V.X V.G (V.c.fact 10 (f := .glo "check_game") rfl), F.kp, F.bindsN fun _ _ _ _ _ _ us hl => match us, hl with | [_], _ => rfl⟩
theorem Vx.u_check_position (V : Vx w K h mg) (base : Heap) : ∃ fd, Use lawP w K mg base "check_position" 3 ["game", "position"] (spD (lawT w K) po_check_position) (He.ga K "check_position") fd := by
  haveI := V.ci
  obtain ⟨fd, F⟩ := V.c.def_ 19 (d := d_check_position) rfl
  obtain ⟨fd_is_below, U_is_below⟩ := V.u_is_below base
  obtain ⟨fd_check_game, U_check_game⟩ := V.u_check_game base
  have H := ok_check_position (T := lawT w K) (mg := mg) (base := base) F V.fr U_is_below U_check_game
  exact ⟨fd, H, He.glo_ok V.X V.G (V.c.fact 11 (f := .glo "check_position") rfl), F.kp, F.bindsN fun _ _ _ _ _ _ us hl => match us, hl with | [_, _], _ => rfl⟩
theorem Vx.u_ends_of (V : Vx w K h mg) (base : Heap) : ∃ fd, Use lawP w K mg base "ends_of" 1 ["arrows"] (spD (lawT w K) po_ends_of) (He.ga K "ends_of") fd := by
  haveI := V.ci
  obtain ⟨fd, F⟩ := V.c.def_ 20 (d := d_ends_of) rfl
  have H := ok_ends_of (T := lawT w K) (mg := mg) (base := base) F V.fr
  exact ⟨fd, H, He.glo_ok V.X V.G (V.c.fact 12 (f := .glo "ends_of") rfl), F.kp, F.bindsN fun _ _ _ _ _ _ us hl => match us, hl with | [_], _ => rfl⟩
theorem Vx.u_led (V : Vx w K h mg) (base : Heap) : ∃ fd, Use lawP w K mg base "led" 1 ["pairs", "peg"] (spD (lawT w K) po_led) (He.ga K "led") fd := by
  haveI := V.ci
  obtain ⟨fd, F⟩ := V.c.def_ 21 (d := d_led) rfl
  have H := ok_led (T := lawT w K) (mg := mg) (base := base) F V.fr
  exact ⟨fd, H, He.glo_ok V.X V.G (V.c.fact 13 (f := .glo "led") rfl), F.kp, F.bindsN fun _ _ _ _ _ _ us hl => match us, hl with | [_, _], _ => rfl⟩
theorem Vx.u_tied_by (V : Vx w K h mg) (base : Heap) : ∃ fd, Use lawP w K mg base "tied_by" 2 ["pairs", "peg"] (spD (lawT w K) po_tied_by) (He.ga K "tied_by") fd := by
  haveI := V.ci
  obtain ⟨fd, F⟩ := V.c.def_ 22 (d := d_tied_by) rfl
  obtain ⟨fd_led, U_led⟩ := V.u_led base
  have H := ok_tied_by (T := lawT w K) (mg := mg) (base := base) F V.fr U_led
  exact ⟨fd, H, He.glo_ok V.X V.G (V.c.fact 14 (f := .glo "tied_by") rfl), F.kp, F.bindsN fun _ _ _ _ _ _ us hl => match us, hl with | [_, _], _ => rfl⟩
theorem Vx.u_many_in (V : Vx w K h mg) (base : Heap) : ∃ fd, Use lawP w K mg base "many_in" 1 ["sets"] (spD (lawT w K) po_many_in) (He.ga K "many_in") fd := by
  haveI := V.ci
  obtain ⟨fd, F⟩ := V.c.def_ 23 (d := d_many_in) rfl
  have H := ok_many_in (T := lawT w K) (mg := mg) (base := base) F V.fr
  exact ⟨fd, H, He.glo_ok V.X V.G (V.c.fact 15 (f := .glo "many_in") rfl), F.kp, F.bindsN fun _ _ _ _ _ _ us hl => match us, hl with | [_], _ => rfl⟩
theorem Vx.u_is_within (V : Vx w K h mg) (base : Heap) : ∃ fd, Use lawP w K mg base "is_within" 1 ["position", "sets"] (spD (lawT w K) po_is_within) (He.ga K "is_within") fd := by
  haveI := V.ci
  obtain ⟨fd, F⟩ := V.c.def_ 24 (d := d_is_within) rfl
  have H := ok_is_within (T := lawT w K) (mg := mg) (base := base) F V.fr
  exact ⟨fd, H, He.glo_ok V.X V.G (V.c.fact 16 (f := .glo "is_within") rfl), F.kp, F.bindsN fun _ _ _ _ _ _ us hl => match us, hl with | [_, _], _ => rfl⟩
theorem Vx.u_Game_guards (V : Vx w K h mg) (base : Heap) : ∃ fd, UseM lawP w K mg base (lawT w K).CG "guards" 1 ["self"] (spD (lawT w K) po_Game_guards) (He.ma K (He.ga K "Game") "guards") fd := by
  haveI := V.ci
  obtain ⟨fd, F⟩ := V.c.def_ 25 (d := d_Game_guards) rfl
  have H := ok_Game_guards (T := lawT w K) (mg := mg) (base := base) F V.fr
  exact ⟨fd, H, He.meth_ok (V.c.fact 73 (f := .meth "Game" "guards") rfl), F.bindsN fun _ _ _ _ _ _ us hl => match us, hl with | [_], _ => rfl⟩
theorem Vx.u_sets_at (V : Vx w K h mg) (base : Heap) : ∃ fd, Use lawP w K mg base "sets_at" 3 ["game", "position"] (spD (lawT w K) po_sets_at) (He.ga K "sets_at") fd := by
  haveI := V.ci
  obtain ⟨fd, F⟩ := V.c.def_ 26 (d := d_sets_at) rfl
  obtain ⟨fd_meets, U_meets⟩ := V.u_meets base
  obtain ⟨fd_tied_by, U_tied_by⟩ := V.u_tied_by base
  obtain ⟨fd_ends_of, U_ends_of⟩ := V.u_ends_of base
  obtain ⟨fd_Game_guards, U_Game_guards⟩ := V.u_Game_guards base
  have H := ok_sets_at (T := lawT w K) (mg := mg) (base := base) F V.fr U_meets U_tied_by U_ends_of U_Game_guards
  exact ⟨fd, H, He.glo_ok V.X V.G (V.c.fact 17 (f := .glo "sets_at") rfl), F.kp, F.bindsN fun _ _ _ _ _ _ us hl => match us, hl with | [_, _], _ => rfl⟩
theorem Vx.u_sets_of (V : Vx w K h mg) (base : Heap) : ∃ fd, Use lawP w K mg base "sets_of" 4 ["game", "position"] (spD (lawT w K) po_sets_of) (He.ga K "sets_of") fd := by
  haveI := V.ci
  obtain ⟨fd, F⟩ := V.c.def_ 27 (d := d_sets_of) rfl
  obtain ⟨fd_sets_at, U_sets_at⟩ := V.u_sets_at base
  obtain ⟨fd_check_position, U_check_position⟩ := V.u_check_position base
  have H := ok_sets_of (T := lawT w K) (mg := mg) (base := base) F V.fr U_sets_at U_check_position
  exact ⟨fd, H, He.glo_ok V.X V.G (V.c.fact 18 (f := .glo "sets_of") rfl), F.kp, F.bindsN fun _ _ _ _ _ _ us hl => match us, hl with | [_, _], _ => rfl⟩
theorem Vx.u_room_size (V : Vx w K h mg) (base : Heap) : ∃ fd, Use lawP w K mg base "room_size" 5 ["game", "position"] (spD (lawT w K) po_room_size) (He.ga K "room_size") fd := by
  haveI := V.ci
  obtain ⟨fd, F⟩ := V.c.def_ 28 (d := d_room_size) rfl
  obtain ⟨fd_many_in, U_many_in⟩ := V.u_many_in base
  obtain ⟨fd_sets_of, U_sets_of⟩ := V.u_sets_of base
  have H := ok_room_size (T := lawT w K) (mg := mg) (base := base) F V.fr U_many_in U_sets_of
  exact ⟨fd, H, He.glo_ok V.X V.G (V.c.fact 19 (f := .glo "room_size") rfl), F.kp, F.bindsN fun _ _ _ _ _ _ us hl => match us, hl with | [_, _], _ => rfl⟩
theorem Vx.u_in_room (V : Vx w K h mg) (base : Heap) : ∃ fd, Use lawP w K mg base "in_room" 5 ["game", "position", "other"] (spD (lawT w K) po_in_room) (He.ga K "in_room") fd := by
  haveI := V.ci
  obtain ⟨fd, F⟩ := V.c.def_ 29 (d := d_in_room) rfl
  obtain ⟨fd_is_within, U_is_within⟩ := V.u_is_within base
  obtain ⟨fd_check_position, U_check_position⟩ := V.u_check_position base
  obtain ⟨fd_sets_of, U_sets_of⟩ := V.u_sets_of base
  have H := ok_in_room (T := lawT w K) (mg := mg) (base := base) F V.fr U_is_within U_check_position U_sets_of
  exact ⟨fd, H, He.glo_ok V.X V.G (V.c.fact 20 (f := .glo "in_room") rfl), F.kp, F.bindsN fun _ _ _ _ _ _ us hl => match us, hl with | [_, _, _], _ => rfl⟩
theorem Vx.u__law_take (V : Vx w K h mg) (base : Heap) : ∃ fd, Use lawP w K mg base "_law_take" 1 ["_law_draws_here", "_law_many"] (spR (lawT w K) po__law_take) (He.ga K "_law_take") fd := by
  haveI := V.ci
  obtain ⟨fd, F⟩ := V.c.def_ 30 (d := d__law_take) rfl
  have H := ok__law_take (T := lawT w K) (mg := mg) (base := base) F V.fr
  exact ⟨fd, H, He.glo_ok V.X V.G (V.c.fact 21 (f := .glo "_law_take") rfl), F.kp, F.bindsN fun _ _ _ _ _ _ us hl => match us, hl with | [_, _], _ => rfl⟩
theorem Vx.u__law_guards (V : Vx w K h mg) (base : Heap) : ∃ fd, Use lawP w K mg base "_law_guards" 1 ["_law_pegs", "_law_start", "_law_stop"] (spD (lawT w K) po__law_guards) (He.ga K "_law_guards") fd := by
  haveI := V.ci
  obtain ⟨fd, F⟩ := V.c.def_ 31 (d := d__law_guards) rfl
  have H := ok__law_guards (T := lawT w K) (mg := mg) (base := base) F V.fr
  exact ⟨fd, H, He.glo_ok V.X V.G (V.c.fact 22 (f := .glo "_law_guards") rfl), F.kp, F.bindsN fun _ _ _ _ _ _ us hl => match us, hl with | [_, _, _], _ => rfl⟩
theorem Vx.u__law_cost (V : Vx w K h mg) (base : Heap) : ∃ fd, Use lawP w K mg base "_law_cost" 2 ["_law_draws_here"] (spR (lawT w K) po__law_cost) (He.ga K "_law_cost") fd := by
  haveI := V.ci
  obtain ⟨fd, F⟩ := V.c.def_ 32 (d := d__law_cost) rfl
  obtain ⟨fd__law_take, U__law_take⟩ := V.u__law_take base
  have H := ok__law_cost (T := lawT w K) (mg := mg) (base := base) F V.fr U__law_take
  exact ⟨fd, H, He.glo_ok V.X V.G (V.c.fact 23 (f := .glo "_law_cost") rfl), F.kp, F.bindsN fun _ _ _ _ _ _ us hl => match us, hl with | [_], _ => rfl⟩
theorem Vx.u__law_kind (V : Vx w K h mg) (base : Heap) : ∃ fd, Use lawP w K mg base "_law_kind" 2 ["_law_draws_here"] (spR (lawT w K) po__law_kind) (He.ga K "_law_kind") fd := by
  haveI := V.ci
  obtain ⟨fd, F⟩ := V.c.def_ 33 (d := d__law_kind) rfl
  obtain ⟨fd__law_take, U__law_take⟩ := V.u__law_take base
  have H := ok__law_kind (T := lawT w K) (mg := mg) (base := base) F V.fr U__law_take
  exact ⟨fd, H, He.glo_ok V.X V.G (V.c.fact 24 (f := .glo "_law_kind") rfl), F.kp, F.bindsN fun _ _ _ _ _ _ us hl => match us, hl with | [_], _ => rfl⟩
theorem Vx.u__law_guard (V : Vx w K h mg) (base : Heap) : ∃ fd, Use lawP w K mg base "_law_guard" 2 ["_law_draws_here", "_law_pegs", "_law_start", "_law_stop", "_law_kind_here"] (spR (lawT w K) po__law_guard) (He.ga K "_law_guard") fd := by
  haveI := V.ci
  obtain ⟨fd, F⟩ := V.c.def_ 34 (d := d__law_guard) rfl
  obtain ⟨fd__law_take, U__law_take⟩ := V.u__law_take base
  obtain ⟨fd__law_guards, U__law_guards⟩ := V.u__law_guards base
  have H := ok__law_guard (T := lawT w K) (mg := mg) (base := base) F V.fr U__law_take U__law_guards
  exact ⟨fd, H, He.glo_ok V.X V.G (V.c.fact 25 (f := .glo "_law_guard") rfl), F.kp, F.bindsN fun _ _ _ _ _ _ us hl => match us, hl with | [_, _, _, _, _], _ => rfl⟩
theorem Vx.u__law_sizes (V : Vx w K h mg) (base : Heap) : ∃ fd, Use lawP w K mg base "_law_sizes" 2 ["_law_draws_here", "_law_most"] (spR (lawT w K) po__law_sizes) (He.ga K "_law_sizes") fd := by
  haveI := V.ci
  obtain ⟨fd, F⟩ := V.c.def_ 35 (d := d__law_sizes) rfl
  obtain ⟨fd__law_take, U__law_take⟩ := V.u__law_take base
  have H := ok__law_sizes (T := lawT w K) (mg := mg) (base := base) F V.fr U__law_take
  exact ⟨fd, H, He.glo_ok V.X V.G (V.c.fact 26 (f := .glo "_law_sizes") rfl), F.kp, F.bindsN fun _ _ _ _ _ _ us hl => match us, hl with | [_, _], _ => rfl⟩
theorem Vx.u__law_position (V : Vx w K h mg) (base : Heap) : ∃ fd, Use lawP w K mg base "_law_position" 2 ["_law_draws_here", "_law_pegs", "_law_discs"] (spR (lawT w K) po__law_position) (He.ga K "_law_position") fd := by
  haveI := V.ci
  obtain ⟨fd, F⟩ := V.c.def_ 36 (d := d__law_position) rfl
  obtain ⟨fd__law_take, U__law_take⟩ := V.u__law_take base
  have H := ok__law_position (T := lawT w K) (mg := mg) (base := base) F V.fr U__law_take
  exact ⟨fd, H, He.glo_ok V.X V.G (V.c.fact 27 (f := .glo "_law_position") rfl), F.kp, F.bindsN fun _ _ _ _ _ _ us hl => match us, hl with | [_, _, _], _ => rfl⟩
theorem Vx.u__law_tall_position (V : Vx w K h mg) (base : Heap) : ∃ fd, Use lawP w K mg base "_law_tall_position" 2 ["_law_draws_here", "_law_pegs", "_law_discs"] (spR (lawT w K) po__law_tall_position) (He.ga K "_law_tall_position") fd := by
  haveI := V.ci
  obtain ⟨fd, F⟩ := V.c.def_ 37 (d := d__law_tall_position) rfl
  obtain ⟨fd__law_take, U__law_take⟩ := V.u__law_take base
  have H := ok__law_tall_position (T := lawT w K) (mg := mg) (base := base) F V.fr U__law_take
  exact ⟨fd, H, He.glo_ok V.X V.G (V.c.fact 28 (f := .glo "_law_tall_position") rfl), F.kp, F.bindsN fun _ _ _ _ _ _ us hl => match us, hl with | [_, _, _], _ => rfl⟩
theorem Vx.u__law_pairs (V : Vx w K h mg) (base : Heap) : ∃ fd, Use lawP w K mg base "_law_pairs" 2 ["_law_draws_here", "_law_pegs"] (spR (lawT w K) po__law_pairs) (He.ga K "_law_pairs") fd := by
  haveI := V.ci
  obtain ⟨fd, F⟩ := V.c.def_ 38 (d := d__law_pairs) rfl
  obtain ⟨fd__law_take, U__law_take⟩ := V.u__law_take base
  have H := ok__law_pairs (T := lawT w K) (mg := mg) (base := base) F V.fr U__law_take
  exact ⟨fd, H, He.glo_ok V.X V.G (V.c.fact 29 (f := .glo "_law_pairs") rfl), F.kp, F.bindsN fun _ _ _ _ _ _ us hl => match us, hl with | [_, _], _ => rfl⟩
theorem Vx.u__law_web (V : Vx w K h mg) (base : Heap) : ∃ fd, Use lawP w K mg base "_law_web" 3 ["_law_draws_here", "_law_pegs", "_law_kind_here"] (spR (lawT w K) po__law_web) (He.ga K "_law_web") fd := by
  haveI := V.ci
  obtain ⟨fd, F⟩ := V.c.def_ 39 (d := d__law_web) rfl
  obtain ⟨fd__law_pairs, U__law_pairs⟩ := V.u__law_pairs base
  obtain ⟨fd__law_take, U__law_take⟩ := V.u__law_take base
  obtain ⟨fd__law_cost, U__law_cost⟩ := V.u__law_cost base
  obtain ⟨fd__law_guard, U__law_guard⟩ := V.u__law_guard base
  have H := ok__law_web (T := lawT w K) (mg := mg) (base := base) F V.fr U__law_pairs U__law_take U__law_cost U__law_guard
  exact ⟨fd, H, He.glo_ok V.X V.G (V.c.fact 30 (f := .glo "_law_web") rfl), F.kp, F.bindsN fun _ _ _ _ _ _ us hl => match us, hl with | [_, _, _], _ => rfl⟩
theorem Vx.u__law_webs (V : Vx w K h mg) (base : Heap) : ∃ fd, Use lawP w K mg base "_law_webs" 4 ["_law_draws_here", "_law_pegs", "_law_discs", "_law_kind_here"] (spR (lawT w K) po__law_webs) (He.ga K "_law_webs") fd := by
  haveI := V.ci
  obtain ⟨fd, F⟩ := V.c.def_ 40 (d := d__law_webs) rfl
  obtain ⟨fd__law_web, U__law_web⟩ := V.u__law_web base
  obtain ⟨fd__law_take, U__law_take⟩ := V.u__law_take base
  have H := ok__law_webs (T := lawT w K) (mg := mg) (base := base) F V.fr U__law_web U__law_take
  exact ⟨fd, H, He.glo_ok V.X V.G (V.c.fact 31 (f := .glo "_law_webs") rfl), F.kp, F.bindsN fun _ _ _ _ _ _ us hl => match us, hl with | [_, _, _, _], _ => rfl⟩
theorem Vx.u__law_built (V : Vx w K h mg) (base : Heap) : ∃ fd, Use lawP w K mg base "_law_built" 9 ["_law_pegs", "_law_webs_here"] (spD (lawT w K) po__law_built) (He.ga K "_law_built") fd := by
  haveI := V.ci
  obtain ⟨fd, F⟩ := V.c.def_ 41 (d := d__law_built) rfl
  obtain ⟨fd_Game___init__, U_Game___init__⟩ := V.u_Game___init__ base
  obtain ⟨fd_Web___init__, U_Web___init__⟩ := V.u_Web___init__ base
  have H := ok__law_built (T := lawT w K) (mg := mg) (base := base) F V.fr V.gG U_Game___init__ V.gW U_Web___init__
  exact ⟨fd, H, He.glo_ok V.X V.G (V.c.fact 32 (f := .glo "_law_built") rfl), F.kp, F.bindsN fun _ _ _ _ _ _ us hl => match us, hl with | [_, _], _ => rfl⟩
theorem Vx.u__law_behind (V : Vx w K h mg) (base : Heap) : ∃ fd, Use lawP w K mg base "_law_behind" 1 ["_law_position_here", "_law_disc", "_law_stop"] (spD (lawT w K) po__law_behind) (He.ga K "_law_behind") fd := by
  haveI := V.ci
  obtain ⟨fd, F⟩ := V.c.def_ 42 (d := d__law_behind) rfl
  have H := ok__law_behind (T := lawT w K) (mg := mg) (base := base) F V.fr
  exact ⟨fd, H, He.glo_ok V.X V.G (V.c.fact 33 (f := .glo "_law_behind") rfl), F.kp, F.bindsN fun _ _ _ _ _ _ us hl => match us, hl with | [_, _, _], _ => rfl⟩
theorem Vx.u__law_ends (V : Vx w K h mg) (base : Heap) : ∃ fd, Use lawP w K mg base "_law_ends" 1 ["_law_arrows"] (spF (lawT w K) po__law_ends) (He.ga K "_law_ends") fd := by
  haveI := V.ci
  obtain ⟨fd, F⟩ := V.c.def_ 43 (d := d__law_ends) rfl
  have H := ok__law_ends (T := lawT w K) (mg := mg) (base := base) F V.fr
  exact ⟨fd, H, He.glo_ok V.X V.G (V.c.fact 34 (f := .glo "_law_ends") rfl), F.kp, F.bindsN fun _ _ _ _ _ _ us hl => match us, hl with | [_], _ => rfl⟩
theorem Vx.u__law_met (V : Vx w K h mg) (base : Heap) : ∃ fd, Use lawP w K mg base "_law_met" 1 ["_law_guard_here", "_law_sets_here"] (spD (lawT w K) po__law_met) (He.ga K "_law_met") fd := by
  haveI := V.ci
  obtain ⟨fd, F⟩ := V.c.def_ 44 (d := d__law_met) rfl
  have H := ok__law_met (T := lawT w K) (mg := mg) (base := base) F V.fr
  exact ⟨fd, H, He.glo_ok V.X V.G (V.c.fact 35 (f := .glo "_law_met") rfl), F.kp, F.bindsN fun _ _ _ _ _ _ us hl => match us, hl with | [_, _], _ => rfl⟩
theorem Vx.u__law_usable (V : Vx w K h mg) (base : Heap) : ∃ fd, Use lawP w K mg base "_law_usable" 2 ["_law_web_here", "_law_sets_here"] (spD (lawT w K) po__law_usable) (He.ga K "_law_usable") fd := by
  haveI := V.ci
  obtain ⟨fd, F⟩ := V.c.def_ 45 (d := d__law_usable) rfl
  obtain ⟨fd__law_met, U__law_met⟩ := V.u__law_met base
  have H := ok__law_usable (T := lawT w K) (mg := mg) (base := base) F V.fr U__law_met
  exact ⟨fd, H, He.glo_ok V.X V.G (V.c.fact 36 (f := .glo "_law_usable") rfl), F.kp, F.bindsN fun _ _ _ _ _ _ us hl => match us, hl with | [_, _], _ => rfl⟩
theorem Vx.u__law_size (V : Vx w K h mg) (base : Heap) : ∃ fd, Use lawP w K mg base "_law_size" 1 ["_law_sets_here"] (spD (lawT w K) po__law_size) (He.ga K "_law_size") fd := by
  haveI := V.ci
  obtain ⟨fd, F⟩ := V.c.def_ 46 (d := d__law_size) rfl
  have H := ok__law_size (T := lawT w K) (mg := mg) (base := base) F V.fr
  exact ⟨fd, H, He.glo_ok V.X V.G (V.c.fact 37 (f := .glo "_law_size") rfl), F.kp, F.bindsN fun _ _ _ _ _ _ us hl => match us, hl with | [_], _ => rfl⟩
theorem Vx.u__law_reached (V : Vx w K h mg) (base : Heap) : ∃ fd, Use lawP w K mg base "_law_reached" 1 ["_law_pairs_here", "_law_start", "_law_pegs"] (spD (lawT w K) po__law_reached) (He.ga K "_law_reached") fd := by
  haveI := V.ci
  obtain ⟨fd, F⟩ := V.c.def_ 47 (d := d__law_reached) rfl
  have H := ok__law_reached (T := lawT w K) (mg := mg) (base := base) F V.fr
  exact ⟨fd, H, He.glo_ok V.X V.G (V.c.fact 38 (f := .glo "_law_reached") rfl), F.kp, F.bindsN fun _ _ _ _ _ _ us hl => match us, hl with | [_, _, _], _ => rfl⟩
theorem Vx.u__law_tied (V : Vx w K h mg) (base : Heap) : ∃ fd, Use lawP w K mg base "_law_tied" 2 ["_law_pairs_here", "_law_peg", "_law_pegs"] (spD (lawT w K) po__law_tied) (He.ga K "_law_tied") fd := by
  haveI := V.ci
  obtain ⟨fd, F⟩ := V.c.def_ 48 (d := d__law_tied) rfl
  obtain ⟨fd__law_reached, U__law_reached⟩ := V.u__law_reached base
  have H := ok__law_tied (T := lawT w K) (mg := mg) (base := base) F V.fr U__law_reached
  exact ⟨fd, H, He.glo_ok V.X V.G (V.c.fact 39 (f := .glo "_law_tied") rfl), F.kp, F.bindsN fun _ _ _ _ _ _ us hl => match us, hl with | [_, _, _], _ => rfl⟩
theorem Vx.u__law_sets (V : Vx w K h mg) (base : Heap) : ∃ fd, Use lawP w K mg base "_law_sets" 3 ["_law_pegs", "_law_webs_here", "_law_position_here"] (spD (lawT w K) po__law_sets) (He.ga K "_law_sets") fd := by
  haveI := V.ci
  obtain ⟨fd, F⟩ := V.c.def_ 49 (d := d__law_sets) rfl
  obtain ⟨fd__law_tied, U__law_tied⟩ := V.u__law_tied base
  obtain ⟨fd__law_ends, U__law_ends⟩ := V.u__law_ends base
  obtain ⟨fd__law_usable, U__law_usable⟩ := V.u__law_usable base
  have H := ok__law_sets (T := lawT w K) (mg := mg) (base := base) F V.fr U__law_tied U__law_ends U__law_usable
  exact ⟨fd, H, He.glo_ok V.X V.G (V.c.fact 40 (f := .glo "_law_sets") rfl), F.kp, F.bindsN fun _ _ _ _ _ _ us hl => match us, hl with | [_, _, _], _ => rfl⟩
theorem Vx.u__law_within (V : Vx w K h mg) (base : Heap) : ∃ fd, Use lawP w K mg base "_law_within" 1 ["_law_lesser", "_law_greater"] (spD (lawT w K) po__law_within) (He.ga K "_law_within") fd := by
  haveI := V.ci
  obtain ⟨fd, F⟩ := V.c.def_ 50 (d := d__law_within) rfl
  have H := ok__law_within (T := lawT w K) (mg := mg) (base := base) F V.fr
  exact ⟨fd, H, He.glo_ok V.X V.G (V.c.fact 41 (f := .glo "_law_within") rfl), F.kp, F.bindsN fun _ _ _ _ _ _ us hl => match us, hl with | [_, _], _ => rfl⟩
theorem Vx.u__law_names (V : Vx w K h mg) (base : Heap) : ∃ fd, Use lawP w K mg base "_law_names" 2 ["_law_draws_here", "_law_pegs"] (spR (lawT w K) po__law_names) (He.ga K "_law_names") fd := by
  haveI := V.ci
  obtain ⟨fd, F⟩ := V.c.def_ 51 (d := d__law_names) rfl
  obtain ⟨fd__law_take, U__law_take⟩ := V.u__law_take base
  have H := ok__law_names (T := lawT w K) (mg := mg) (base := base) F V.fr U__law_take
  exact ⟨fd, H, He.glo_ok V.X V.G (V.c.fact 42 (f := .glo "_law_names") rfl), F.kp, F.bindsN fun _ _ _ _ _ _ us hl => match us, hl with | [_, _], _ => rfl⟩
theorem Vx.u__law_many_webs (V : Vx w K h mg) (base : Heap) : ∃ fd, Use lawP w K mg base "_law_many_webs" 4 ["_law_draws_here", "_law_pegs"] (spR (lawT w K) po__law_many_webs) (He.ga K "_law_many_webs") fd := by
  haveI := V.ci
  obtain ⟨fd, F⟩ := V.c.def_ 52 (d := d__law_many_webs) rfl
  obtain ⟨fd__law_take, U__law_take⟩ := V.u__law_take base
  obtain ⟨fd__law_web, U__law_web⟩ := V.u__law_web base
  have H := ok__law_many_webs (T := lawT w K) (mg := mg) (base := base) F V.fr U__law_take U__law_web
  exact ⟨fd, H, He.glo_ok V.X V.G (V.c.fact 43 (f := .glo "_law_many_webs") rfl), F.kp, F.bindsN fun _ _ _ _ _ _ us hl => match us, hl with | [_, _], _ => rfl⟩
theorem Vx.u__law_more (V : Vx w K h mg) (base : Heap) : ∃ fd, Use lawP w K mg base "_law_more" 4 ["_law_draws_here", "_law_pegs", "_law_webs_here"] (spR (lawT w K) po__law_more) (He.ga K "_law_more") fd := by
  haveI := V.ci
  obtain ⟨fd, F⟩ := V.c.def_ 53 (d := d__law_more) rfl
  obtain ⟨fd__law_take, U__law_take⟩ := V.u__law_take base
  obtain ⟨fd__law_web, U__law_web⟩ := V.u__law_web base
  have H := ok__law_more (T := lawT w K) (mg := mg) (base := base) F V.fr U__law_take U__law_web
  exact ⟨fd, H, He.glo_ok V.X V.G (V.c.fact 44 (f := .glo "_law_more") rfl), F.kp, F.bindsN fun _ _ _ _ _ _ us hl => match us, hl with | [_, _, _], _ => rfl⟩
theorem Vx.u__law_box_rows (V : Vx w K h mg) (base : Heap) : ∃ fd, Use lawP w K mg base "_law_box_rows" 1 ["_law_box"] (spD (lawT w K) po__law_box_rows) (He.ga K "_law_box_rows") fd := by
  haveI := V.ci
  obtain ⟨fd, F⟩ := V.c.def_ 54 (d := d__law_box_rows) rfl
  have H := ok__law_box_rows (T := lawT w K) (mg := mg) (base := base) F V.fr
  exact ⟨fd, H, He.glo_ok V.X V.G (V.c.fact 45 (f := .glo "_law_box_rows") rfl), F.kp, F.bindsN fun _ _ _ _ _ _ us hl => match us, hl with | [_], _ => rfl⟩
theorem Vx.u__law_open (V : Vx w K h mg) (base : Heap) : ∃ fd, Use lawP w K mg base "_law_open" 1 ["_law_webs_here", "_law_position_here"] (spD (lawT w K) po__law_open) (He.ga K "_law_open") fd := by
  haveI := V.ci
  obtain ⟨fd, F⟩ := V.c.def_ 55 (d := d__law_open) rfl
  have H := ok__law_open (T := lawT w K) (mg := mg) (base := base) F V.fr
  exact ⟨fd, H, He.glo_ok V.X V.G (V.c.fact 46 (f := .glo "_law_open") rfl), F.kp, F.bindsN fun _ _ _ _ _ _ us hl => match us, hl with | [_, _], _ => rfl⟩
theorem Vx.u__law_costs (V : Vx w K h mg) (base : Heap) : ∃ fd, Use lawP w K mg base "_law_costs" 2 ["_law_webs_here", "_law_start"] (spD (lawT w K) po__law_costs) (He.ga K "_law_costs") fd := by
  haveI := V.ci
  obtain ⟨fd, F⟩ := V.c.def_ 56 (d := d__law_costs) rfl
  obtain ⟨fd__law_open, U__law_open⟩ := V.u__law_open base
  obtain ⟨fd__law_behind, U__law_behind⟩ := V.u__law_behind base
  have H := ok__law_costs (T := lawT w K) (mg := mg) (base := base) F V.fr U__law_open U__law_behind
  exact ⟨fd, H, He.glo_ok V.X V.G (V.c.fact 47 (f := .glo "_law_costs") rfl), F.kp, F.bindsN fun _ _ _ _ _ _ us hl => match us, hl with | [_, _], _ => rfl⟩
theorem Vx.u__law_leads (V : Vx w K h mg) (base : Heap) : ∃ fd, Use lawP w K mg base "_law_leads" 3 ["_law_webs_here", "_law_start"] (spD (lawT w K) po__law_leads) (He.ga K "_law_leads") fd := by
  haveI := V.ci
  obtain ⟨fd, F⟩ := V.c.def_ 57 (d := d__law_leads) rfl
  obtain ⟨fd__law_costs, U__law_costs⟩ := V.u__law_costs base
  have H := ok__law_leads (T := lawT w K) (mg := mg) (base := base) F V.fr U__law_costs
  exact ⟨fd, H, He.glo_ok V.X V.G (V.c.fact 48 (f := .glo "_law_leads") rfl), F.kp, F.bindsN fun _ _ _ _ _ _ us hl => match us, hl with | [_, _], _ => rfl⟩
theorem Vx.u__law_room (V : Vx w K h mg) (base : Heap) : ∃ fd, Use lawP w K mg base "_law_room" 4 ["_law_webs_here", "_law_position_here"] (spD (lawT w K) po__law_room) (He.ga K "_law_room") fd := by
  haveI := V.ci
  obtain ⟨fd, F⟩ := V.c.def_ 58 (d := d__law_room) rfl
  obtain ⟨fd__law_leads, U__law_leads⟩ := V.u__law_leads base
  have H := ok__law_room (T := lawT w K) (mg := mg) (base := base) F V.fr U__law_leads
  exact ⟨fd, H, He.glo_ok V.X V.G (V.c.fact 49 (f := .glo "_law_room") rfl), F.kp, F.bindsN fun _ _ _ _ _ _ us hl => match us, hl with | [_, _], _ => rfl⟩
theorem Vx.u__law_draws (V : Vx w K h mg) (base : Heap) : ∃ fd, Use lawP w K mg base "_law_draws" 1 ["_law_script"] (spS (lawT w K) K po__law_draws) (He.ga K "_law_draws") fd := by
  haveI := V.ci
  obtain ⟨fd, F⟩ := V.c.def_ 59 (d := d__law_draws) rfl
  have H := ok__law_draws (T := lawT w K) (mg := mg) (base := base) F V.fr
  exact ⟨fd, H, He.glo_ok V.X V.G (V.c.fact 50 (f := .glo "_law_draws") rfl), F.kp, F.bindsN fun _ _ _ _ _ _ us hl => match us, hl with | [_], _ => rfl⟩
theorem Vx.u__law_like (V : Vx w K h mg) (base : Heap) : ∃ fd, UseG lawP w K mg base "_law_like" 1 ["_law_thing", "_law_due"] (spD (lawT w K) po__law_like) (He.ga K "_law_like") fd := by
  haveI := V.ci
  obtain ⟨fd, F⟩ := V.c.def_ 60 (d := d__law_like) rfl
  have H := ok__law_like (T := lawT w K) (mg := mg) (base := base) F V.fr
  exact ⟨fd, H, He.glo_ok V.X V.G (V.c.fact 51 (f := .glo "_law_like") rfl), F.kp, F.bindsN fun _ _ _ _ _ _ us hl => match us, hl with | [_, _], _ => rfl⟩
theorem Vx.u__law_others_agree (V : Vx w K h mg) (base : Heap) : ∃ fd, UseG lawP w K mg base "_law_others_agree" 11 ["_law_draws_here", "_law_pegs", "_law_webs_here", "_law_position_here"] (spR (lawT w K) po__law_others_agree) (He.ga K "_law_others_agree") fd := by
  haveI := V.ci
  obtain ⟨fd, F⟩ := V.c.def_ 61 (d := d__law_others_agree) rfl
  obtain ⟨fd__law_within, U__law_within⟩ := V.u__law_within base
  obtain ⟨fd__law_like, U__law_like⟩ := V.u__law_like base
  obtain ⟨fd__law_sets, U__law_sets⟩ := V.u__law_sets base
  obtain ⟨fd_sets_of, U_sets_of⟩ := V.u_sets_of base
  obtain ⟨fd_Game___init__, U_Game___init__⟩ := V.u_Game___init__ base
  obtain ⟨fd_Web___or__, U_Web___or__⟩ := V.u_Web___or__ base
  obtain ⟨fd_Game___getitem__, U_Game___getitem__⟩ := V.u_Game___getitem__ base
  obtain ⟨fd_Game_turned, U_Game_turned⟩ := V.u_Game_turned base
  obtain ⟨fd__law_built, U__law_built⟩ := V.u__law_built base
  obtain ⟨fd__law_more, U__law_more⟩ := V.u__law_more base
  obtain ⟨fd__law_size, U__law_size⟩ := V.u__law_size base
  obtain ⟨fd_room_size, U_room_size⟩ := V.u_room_size base
  obtain ⟨fd_Game_renamed, U_Game_renamed⟩ := V.u_Game_renamed base
  obtain ⟨fd__law_names, U__law_names⟩ := V.u__law_names base
  have H := ok__law_others_agree (T := lawT w K) (mg := mg) (base := base) F V.fr U__law_within U__law_like U__law_sets U_sets_of V.gG U_Game___init__ U_Web___or__ V.orF U_Game___getitem__ V.ixF U_Game_turned U__law_built U__law_more U__law_size U_room_size U_Game_renamed U__law_names
  exact ⟨fd, H, He.glo_ok V.X V.G (V.c.fact 52 (f := .glo "_law_others_agree") rfl), F.kp, F.bindsN fun _ _ _ _ _ _ us hl => match us, hl with | [_, _, _, _], _ => rfl⟩
theorem Vx.u__law_unions (V : Vx w K h mg) (base : Heap) : ∃ fd, Use lawP w K mg base "_law_unions" 10 ["_law_draws_here", "_law_pegs", "_law_webs_here", "_law_position_here"] (spR (lawT w K) po__law_unions) (He.ga K "_law_unions") fd := by
  haveI := V.ci
  obtain ⟨fd, F⟩ := V.c.def_ 62 (d := d__law_unions) rfl
  obtain ⟨fd__law_room, U__law_room⟩ := V.u__law_room base
  obtain ⟨fd_in_room, U_in_room⟩ := V.u_in_room base
  obtain ⟨fd__law_take, U__law_take⟩ := V.u__law_take base
  obtain ⟨fd__law_box_rows, U__law_box_rows⟩ := V.u__law_box_rows base
  obtain ⟨fd_sets_of, U_sets_of⟩ := V.u_sets_of base
  obtain ⟨fd__law_built, U__law_built⟩ := V.u__law_built base
  obtain ⟨fd__law_more, U__law_more⟩ := V.u__law_more base
  have H := ok__law_unions (T := lawT w K) (mg := mg) (base := base) F V.fr U__law_room U_in_room U__law_take U__law_box_rows U_sets_of U__law_built U__law_more
  exact ⟨fd, H, He.glo_ok V.X V.G (V.c.fact 53 (f := .glo "_law_unions") rfl), F.kp, F.bindsN fun _ _ _ _ _ _ us hl => match us, hl with | [_, _, _, _], _ => rfl⟩
theorem Vx.end (V : Vx w K h mg) {f : Addr} (hf : mg "law" = some (.ref f)) : ∃ fd : FuncData, (∀ (s : Shared) (v : Value), BindsTo s fd ⟨[v], []⟩ [("_law_script", v)]) ∧ ∀ base : Heap, K.In base → base.Ns mainGlobals mg → FnG lawP w K mg base 12 f fd ["_law_script"] (spLaw K) := by
  haveI := V.ci
  obtain ⟨fd, F⟩ := V.c.def_ 63 (d := d_law) rfl
  have e := hf.symm.trans (He.glo_ok V.X V.G (V.c.fact 54 (f := .glo "law") rfl))
  cases e
  have b := FunD.bindsA (ps := ["_law_script"]) F fun _ _ _ _ _ _ us hl => match us, hl with | [_], _ => rfl
  refine ⟨fd, fun s v => b s [v] rfl, fun base _ _ => ?_⟩
  obtain ⟨fd__law_others_agree, U__law_others_agree⟩ := V.u__law_others_agree base
  obtain ⟨fd__law_tall_position, U__law_tall_position⟩ := V.u__law_tall_position base
  obtain ⟨fd__law_many_webs, U__law_many_webs⟩ := V.u__law_many_webs base
  obtain ⟨fd__law_unions, U__law_unions⟩ := V.u__law_unions base
  obtain ⟨fd__law_position, U__law_position⟩ := V.u__law_position base
  obtain ⟨fd__law_webs, U__law_webs⟩ := V.u__law_webs base
  obtain ⟨fd__law_kind, U__law_kind⟩ := V.u__law_kind base
  obtain ⟨fd__law_sizes, U__law_sizes⟩ := V.u__law_sizes base
  obtain ⟨fd__law_take, U__law_take⟩ := V.u__law_take base
  obtain ⟨fd__law_draws, U__law_draws⟩ := V.u__law_draws base
  exact ok_law (T := lawT w K) (mg := mg) (base := base) F V.fr U__law_others_agree U__law_tall_position U__law_many_webs U__law_unions U__law_position U__law_webs U__law_kind U__law_sizes U__law_take U__law_draws
end
end
end DL
open PySem PySem.W PySem.Calls PyProof.Rows
theorem PySem.Challenge.cw_pegwebs_k13_whole_more_arrows_holds : PySem.Challenge.rw_pegwebs_k13_whole_more_arrows.Holds := by
  w_on; o_law
  refine HandSHeadRun.head_any (r := OpenLaw.row PySem.Challenge.rw_pegwebs_k13_whole_more_arrows) (q := view (OpenLaw.row PySem.Challenge.rw_pegwebs_k13_whole_more_arrows).prog [83]) (H := DL.hk) (ob := DL.hkOb) (M := 20000) (loose := DL.namesA) (d := HandSHeadRun.topDef (OpenLaw.row PySem.Challenge.rw_pegwebs_k13_whole_more_arrows).prog 83) (kwd := []) DL.hkOb_eq
    (by kernel_rfl) (fun s => by kernel_rfl) DL.hkRun (by kernel_rfl) (by kernel_rfl) (by kernel_rfl) (by rfl) (by first | assumption | decide +kernel) (by decide +kernel) ⟨rfl, rfl, rfl, rfl, rfl, by decide +kernel⟩ ?hw ?hc
  case hw => w_witness2
  case hc =>
    refine DL.walk_ofG (l := PySem.Challenge.rw_pegwebs_k13_whole_more_arrows) (n := 63) (k := 12) (x := "_law_script") rfl (by decide) (by kernel_rfl) ⟨rfl, by decide, by decide⟩ ?F
    intro w mg fa h Y G hmg0
    obtain ⟨K, KX, c⟩ := Y
    have hmg : mg ("law" : PySem.Str) = some (.ref fa) := by
      have e : (HandSHeadRun.topDef (OpenLaw.row PySem.Challenge.rw_pegwebs_k13_whole_more_arrows).prog 83).name = ("law" : PySem.Str) := by kernel_rfl
      rw [← e]
      exact hmg0
    obtain ⟨fd, hb, hF⟩ := DL.Vx.end (w := w) ⟨KX, G, c.1, c.2⟩ hmg
    exact ⟨K, fd, KX, hb, hF⟩
