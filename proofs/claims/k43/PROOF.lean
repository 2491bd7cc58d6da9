import PyProof.Rows.All
import Wide.All
import OpenK.AllK
import Wide.FinOn
import HandS.ForMost
import HandS.ForExc
import HandS.Deep
import HandS.Zip
import HandS.TupAny
import HandS.TupMul
import HandS.IsInst
import HandS.Style
import HandS.Flow
import HandS.CallSlots
import HandS.ExcIs
import HandS.ExcValue
import HandS.Walk
import KE.GoesEnum
import KE.GoesMore
import HandS.Lambda
import HandS.TryOnly
import HandS.WordsExc
import PyProof.P3Eq
import PyProof.TableCode
import PyProof.Fits
import PySem.Challenge.RW_roundhand_k43_unrolled_at_the_bound
set_option Elab.async false
set_option linter.all false
set_option maxRecDepth 100000
set_option maxHeartbeats 4000000
/-! Data, owned trees, how they lie in the heap. -/
namespace DP
open PySem PySem.Spec PyProof.Rows L2

/-- plain data -/
inductive D where
  | non | bl (b : Bool) | int (i : Int) | str (s : Str)
  | tup (xs : List D) | lst (xs : List D) | dic (kvs : List (Key × D)) | exc (c : Str) (fs : List (Str × D))
  /-- the script -/
  | scr (ns : List Int)
/-- owned trees over plain data -/
inductive T where
  | fz (d : D) | lst (xs : List T) | tup (xs : List T) | dic (kvs : List (Key × T))

mutual
def er : T → D
  | .fz d => d
  | .lst xs => .lst (ers xs)
  | .tup xs => .tup (ers xs)
  | .dic kvs => .dic (erk kvs)
def ers : List T → List D
  | [] => []
  | x :: xs => er x :: ers xs
def erk : List (Key × T) → List (Key × D)
  | [] => []
  | (k, x) :: xs => (k, er x) :: erk xs
end
theorem ers_map : ∀ ts, ers ts = ts.map er
  | [] => rfl
  | t :: ts => by rw [ers, List.map_cons, ers_map ts]

/-- what stands for an exception object at a -/
def ExH (cls : Value) (d : Option Addr) (a : Addr) : HO := .ext fun h => ∃ (oe : Obj) (vs : Array Value), h.get? a = some oe ∧ Zc cls d oe ∧ oe.data = .fields vs

structure Lk where
  K : PySem.W.Frag
  mg : Str → Option Value

mutual
inductive RD (L : Lk) (H : Hp) : V → D → Prop
  | non : RD L H .non .non
  | bl (b : Bool) : RD L H (.bl b) (.bl b)
  | int (i : Int) : RD L H (.int i) (.int i)
  | str (s : Str) : RD L H (.str s) (.str s)
  | tup {a : Addr} {xs : List V} {ds : List D} : SqT L.K H a xs → RDs L H xs ds → RD L H (.ref a) (.tup ds)
  | lst {a : Addr} {xs : List V} {ds : List D} : H a = some (.lst xs) → RDs L H xs ds → RD L H (.ref a) (.lst ds)
  | scr {a : Addr} {ns : List Int} : SqL L.K H a (ns.map V.int) → RD L H (.ref a) (.scr ns)
  | dic {a : Addr} {kvs : List (Key × V)} {ds : List (Key × D)} : H a = some (.dK kvs) → RDk L H kvs ds → RD L H (.ref a) (.dic ds)
  | exc0 {a C : Addr} {c : Str} : L.mg c = some (.ref C) → H a = some (ExH (.ref C) none a) → RD L H (.ref a) (.exc c [])
  | excF {a C d : Addr} {c : Str} {fvs : List (Str × V)} {fs : List (Str × D)} : fs ≠ [] → L.mg c = some (.ref C) → H a = some (ExH (.ref C) (some d) a) → H d = some (.xd fvs) → RDf L H fvs fs → RD L H (.ref a) (.exc c fs)
inductive RDs (L : Lk) (H : Hp) : List V → List D → Prop
  | nil : RDs L H [] []
  | cons {x : V} {xs : List V} {d : D} {ds : List D} : RD L H x d → RDs L H xs ds → RDs L H (x :: xs) (d :: ds)
inductive RDk (L : Lk) (H : Hp) : List (Key × V) → List (Key × D) → Prop
  | nil : RDk L H [] []
  | cons {k : Key} {x : V} {xs : List (Key × V)} {d : D} {ds : List (Key × D)} : RD L H x d → RDk L H xs ds → RDk L H ((k, x) :: xs) ((k, d) :: ds)
inductive RDf (L : Lk) (H : Hp) : List (Str × V) → List (Str × D) → Prop
  | nil : RDf L H [] []
  | cons {k : Str} {x : V} {xs : List (Str × V)} {d : D} {ds : List (Str × D)} : RD L H x d → RDf L H xs ds → RDf L H ((k, x) :: xs) ((k, d) :: ds)
end

theorem Same.seqT {K : PySem.W.Frag} {H H' : Hp} {a : Addr} {xs : List V} (e : Same H H') (h : SqT K H a xs) : SqT K H' a xs := by
  rcases h with (h | ⟨o, h⟩) | h
  · exact .inl (.inl (e _ _ h))
  · exact .inl (.inr ⟨o, e _ _ h⟩)
  · exact .inr h

section
variable {L : Lk} {G G' H H' : Hp}
mutual
theorem RD.mono (e : Same H H') : ∀ {v d}, RD L H v d → RD L H' v d
  | _, _, .non => .non
  | _, _, .bl b => .bl b
  | _, _, .int i => .int i
  | _, _, .str s => .str s
  | _, _, .tup h t => .tup (Same.seqT e h) (RDs.mono e t)
  | _, _, .lst h t => .lst (e _ _ h) (RDs.mono e t)
  | _, _, .scr h => .scr (Same.seq e h)
  | _, _, .dic h t => .dic (e _ _ h) (RDk.mono e t)
  | _, _, .exc0 m h => .exc0 m (e _ _ h)
  | _, _, .excF nz m h k t => .excF nz m (e _ _ h) (e _ _ k) (RDf.mono e t)
theorem RDs.mono (e : Same H H') : ∀ {v d}, RDs L H v d → RDs L H' v d
  | _, _, .nil => .nil
  | _, _, .cons h t => .cons (RD.mono e h) (RDs.mono e t)
theorem RDk.mono (e : Same H H') : ∀ {v d}, RDk L H v d → RDk L H' v d
  | _, _, .nil => .nil
  | _, _, .cons h t => .cons (RD.mono e h) (RDk.mono e t)
theorem RDf.mono (e : Same H H') : ∀ {v d}, RDf L H v d → RDf L H' v d
  | _, _, .nil => .nil
  | _, _, .cons h t => .cons (RD.mono e h) (RDf.mono e t)
end
theorem RDs.length : ∀ {vs ds}, RDs L H vs ds → vs.length = ds.length
  | _, _, .nil => rfl
  | _, _, .cons _ t => by rw [List.length_cons, List.length_cons, RDs.length t]
theorem RDs.get : ∀ {vs ds} {i : Nat} {d}, RDs L H vs ds → ds[i]? = some d → ∃ v, vs[i]? = some v ∧ RD L H v d
  | _, _, _, _, .nil, e => by simp at e
  | _, _, 0, _, .cons h _, e => by simp at e; subst e; exact ⟨_, rfl, h⟩
  | _, _, i + 1, d, .cons _ t, e => by
    obtain ⟨v, a, b⟩ := RDs.get (i := i) (d := d) t (by simpa using e)
    exact ⟨v, by simpa using a, b⟩
theorem RDs.append : ∀ {vs ds ws es}, RDs L H vs ds → RDs L H ws es → RDs L H (vs ++ ws) (ds ++ es)
  | _, _, _, _, .nil, b => b
  | _, _, _, _, .cons h t, b => .cons h (RDs.append t b)
theorem RDs.take : ∀ {vs ds} (n : Nat), RDs L H vs ds → RDs L H (vs.take n) (ds.take n)
  | _, _, 0, _ => .nil
  | _, _, _ + 1, .nil => .nil
  | _, _, n + 1, .cons h t => .cons h (RDs.take n t)
theorem RDs.drop : ∀ {vs ds} (n : Nat), RDs L H vs ds → RDs L H (vs.drop n) (ds.drop n)
  | _, _, 0, h => h
  | _, _, _ + 1, .nil => .nil
  | _, _, n + 1, .cons _ t => RDs.drop n t
theorem RDs.rep {vs ds} (h : RDs L H vs ds) : ∀ n : Nat, RDs L H (List.replicate n vs).flatten (List.replicate n ds).flatten
  | 0 => .nil
  | n + 1 => by
    rw [List.replicate_succ, List.replicate_succ, List.flatten_cons, List.flatten_cons]
    exact h.append (RDs.rep h n)
theorem RDs.reverse : ∀ {vs ds}, RDs L H vs ds → RDs L H vs.reverse ds.reverse
  | _, _, .nil => .nil
  | _, _, .cons h t => by rw [List.reverse_cons, List.reverse_cons]; exact (RDs.reverse t).append (.cons h .nil)
theorem RDs.ints : ∀ {ns : List Int}, RDs L H (ns.map V.int) (ns.map D.int)
  | [] => .nil
  | n :: ns => .cons (.int n) RDs.ints

mutual
/-- an owned tree in the heap: its own nodes at fp, the rest in G -/
inductive RT (L : Lk) (G H : Hp) : V → T → List Addr → Prop
  | fz {v : V} {d : D} : RD L G v d → RT L G H v (.fz d) []
  | lst {a : Addr} {xs : List V} {ts : List T} {fp : List Addr} : H a = some (.lst xs) → RTs L G H xs ts fp → RT L G H (.ref a) (.lst ts) (a :: fp)
  | tup {a : Addr} {xs : List V} {ts : List T} {fp : List Addr} : H a = some (.tup xs) → RTs L G H xs ts fp → RT L G H (.ref a) (.tup ts) (a :: fp)
  | dic {a : Addr} {kvs : List (Key × V)} {ts : List (Key × T)} {fp : List Addr} : H a = some (.dK kvs) → RTk L G H kvs ts fp → RT L G H (.ref a) (.dic ts) (a :: fp)
inductive RTs (L : Lk) (G H : Hp) : List V → List T → List Addr → Prop
  | nil : RTs L G H [] [] []
  | cons {x : V} {xs : List V} {t : T} {ts : List T} {f1 f2 : List Addr} : RT L G H x t f1 → RTs L G H xs ts f2 → RTs L G H (x :: xs) (t :: ts) (f1 ++ f2)
inductive RTk (L : Lk) (G H : Hp) : List (Key × V) → List (Key × T) → List Addr → Prop
  | nil : RTk L G H [] [] []
  | cons {k : Key} {x : V} {xs : List (Key × V)} {t : T} {ts : List (Key × T)} {f1 f2 : List Addr} : RT L G H x t f1 → RTk L G H xs ts f2 → RTk L G H ((k, x) :: xs) ((k, t) :: ts) (f1 ++ f2)
end
mutual
theorem RT.there : ∀ {v t fp}, RT L G H v t fp → ∀ a ∈ fp, ∃ o, H a = some o
  | _, _, _, .fz _, a, h => nomatch h
  | _, _, _, .lst e t, a, h => by
    rcases List.mem_cons.mp h with z | z
    · rw [z]; exact ⟨_, e⟩
    · exact RTs.there t a z
  | _, _, _, .tup e t, a, h => by
    rcases List.mem_cons.mp h with z | z
    · rw [z]; exact ⟨_, e⟩
    · exact RTs.there t a z
  | _, _, _, .dic e t, a, h => by
    rcases List.mem_cons.mp h with z | z
    · rw [z]; exact ⟨_, e⟩
    · exact RTk.there t a z
theorem RTs.there : ∀ {v t fp}, RTs L G H v t fp → ∀ a ∈ fp, ∃ o, H a = some o
  | _, _, _, .nil, a, h => nomatch h
  | _, _, _, .cons x t, a, h => by
    rcases List.mem_append.mp h with z | z
    · exact RT.there x a z
    · exact RTs.there t a z
theorem RTk.there : ∀ {v t fp}, RTk L G H v t fp → ∀ a ∈ fp, ∃ o, H a = some o
  | _, _, _, .nil, a, h => nomatch h
  | _, _, _, .cons x t, a, h => by
    rcases List.mem_append.mp h with z | z
    · exact RT.there x a z
    · exact RTk.there t a z
end
mutual
theorem RT.mono (e : Same G G') : ∀ {v t fp}, RT L G H v t fp → (∀ a ∈ fp, H' a = H a) → RT L G' H' v t fp
  | _, _, _, .fz h, _ => .fz (h.mono e)
  | _, _, _, .lst h t, k => .lst ((k _ List.mem_cons_self).trans h) (RTs.mono e t fun a z => k a (List.mem_cons_of_mem _ z))
  | _, _, _, .tup h t, k => .tup ((k _ List.mem_cons_self).trans h) (RTs.mono e t fun a z => k a (List.mem_cons_of_mem _ z))
  | _, _, _, .dic h t, k => .dic ((k _ List.mem_cons_self).trans h) (RTk.mono e t fun a z => k a (List.mem_cons_of_mem _ z))
theorem RTs.mono (e : Same G G') : ∀ {v t fp}, RTs L G H v t fp → (∀ a ∈ fp, H' a = H a) → RTs L G' H' v t fp
  | _, _, _, .nil, _ => .nil
  | _, _, _, .cons x t, k => .cons (RT.mono e x fun a z => k a (List.mem_append_left _ z)) (RTs.mono e t fun a z => k a (List.mem_append_right _ z))
theorem RTk.mono (e : Same G G') : ∀ {v t fp}, RTk L G H v t fp → (∀ a ∈ fp, H' a = H a) → RTk L G' H' v t fp
  | _, _, _, .nil, _ => .nil
  | _, _, _, .cons x t, k => .cons (RT.mono e x fun a z => k a (List.mem_append_left _ z)) (RTk.mono e t fun a z => k a (List.mem_append_right _ z))
end
mutual
/-- an owned tree whose nodes are taken into the ground is plain data -/
theorem RT.freeze (e : Same G G') : ∀ {v t fp}, RT L G H v t fp → (∀ a ∈ fp, G' a = H a) → RD L G' v (er t)
  | _, _, _, .fz h, _ => h.mono e
  | _, _, _, .lst h t, k => by
    rw [er]
    exact .lst ((k _ List.mem_cons_self).trans h) (RTs.freeze e t fun a z => k a (List.mem_cons_of_mem _ z))
  | _, _, _, .tup h t, k => by
    rw [er]
    exact .tup (.inl (.inl ((k _ List.mem_cons_self).trans h))) (RTs.freeze e t fun a z => k a (List.mem_cons_of_mem _ z))
  | _, _, _, .dic h t, k => by
    rw [er]
    exact .dic ((k _ List.mem_cons_self).trans h) (RTk.freeze e t fun a z => k a (List.mem_cons_of_mem _ z))
theorem RTs.freeze (e : Same G G') : ∀ {v t fp}, RTs L G H v t fp → (∀ a ∈ fp, G' a = H a) → RDs L G' v (ers t)
  | _, _, _, .nil, _ => .nil
  | _, _, _, .cons x t, k => .cons (RT.freeze e x fun a z => k a (List.mem_append_left _ z)) (RTs.freeze e t fun a z => k a (List.mem_append_right _ z))
theorem RTk.freeze (e : Same G G') : ∀ {v t fp}, RTk L G H v t fp → (∀ a ∈ fp, G' a = H a) → RDk L G' v (erk t)
  | _, _, _, .nil, _ => .nil
  | _, _, _, .cons x t, k => .cons (RT.freeze e x fun a z => k a (List.mem_append_left _ z)) (RTk.freeze e t fun a z => k a (List.mem_append_right _ z))
end
/-- an owned tree as it is to be read now -/
theorem RT.read (s : Same G H) {v t fp} (h : RT L G H v t fp) : RD L H v (er t) := RT.freeze s h fun _ _ => rfl
theorem RTs.read (s : Same G H) {v t fp} (h : RTs L G H v t fp) : RDs L H v (ers t) := RTs.freeze s h fun _ _ => rfl
theorem RTk.read (s : Same G H) {v t fp} (h : RTk L G H v t fp) : RDk L H v (erk t) := RTk.freeze s h fun _ _ => rfl
theorem RTs.length : ∀ {vs ts fp}, RTs L G H vs ts fp → vs.length = ts.length
  | _, _, _, .nil => rfl
  | _, _, _, .cons _ t => by rw [List.length_cons, List.length_cons, RTs.length t]
theorem RTs.get : ∀ {vs ts fp} {i : Nat} {t}, RTs L G H vs ts fp → ts[i]? = some t → ∃ v f, vs[i]? = some v ∧ RT L G H v t f ∧ f.Sublist fp
  | _, _, _, _, _, .nil, e => by simp at e
  | _, _, _, 0, _, .cons h _, e => by simp at e; subst e; exact ⟨_, _, rfl, h, List.sublist_append_left _ _⟩
  | _, _, _, i + 1, t, .cons _ r, e => by
    obtain ⟨v, f, a, b, c⟩ := RTs.get (i := i) (t := t) r (by simpa using e)
    exact ⟨v, f, by simpa using a, b, c.trans (List.sublist_append_right _ _)⟩
theorem RTs.append : ∀ {vs ts f ws us g}, RTs L G H vs ts f → RTs L G H ws us g → RTs L G H (vs ++ ws) (ts ++ us) (f ++ g)
  | _, _, _, _, _, _, .nil, b => b
  | _, _, _, _, _, _, .cons h t, b => by
    rw [List.append_assoc]
    exact .cons h (RTs.append t b)
/-- all plain -/
def isFz : T → Bool
  | .fz _ => true
  | _ => false
def unFz : List T → Option (List D)
  | [] => some []
  | .fz d :: ts => (unFz ts).map (d :: ·)
  | _ :: _ => none
theorem RTs.plain : ∀ {vs ts fp ds}, RTs L G H vs ts fp → unFz ts = some ds → RDs L G vs ds ∧ fp = []
  | _, _, _, _, .nil, e => by
    simp [unFz] at e
    subst e
    exact ⟨.nil, rfl⟩
  | _, _, _, ds, .cons (t := t) (ts := ts) h r, e => by
    cases h with
    | fz h =>
      rw [unFz] at e
      cases q : unFz ts with
      | none => rw [q] at e; cases e
      | some es =>
        rw [q] at e
        cases e
        obtain ⟨a, b⟩ := RTs.plain r q
        exact ⟨.cons h a, by rw [b]; rfl⟩
    | lst _ _ => simp [unFz] at e
    | tup _ _ => simp [unFz] at e
    | dic _ _ => simp [unFz] at e
theorem RTs.of_plain : ∀ {vs ds}, RDs L G vs ds → RTs L G H vs (ds.map T.fz) []
  | _, _, .nil => .nil
  | _, _, .cons h t => .cons (.fz h) (RTs.of_plain t)
theorem unFz_map : ∀ ds : List D, unFz (ds.map T.fz) = some ds
  | [] => rfl
  | d :: ds => by rw [List.map_cons, unFz, unFz_map ds]; rfl
theorem unFz_some : ∀ {ts ds}, unFz ts = some ds → ts = ds.map T.fz
  | [], ds, e => by simp [unFz] at e; subst e; rfl
  | .fz d :: ts, ds, e => by
    rw [unFz] at e
    cases q : unFz ts with
    | none => rw [q] at e; cases e
    | some es =>
      rw [q] at e
      cases e
      rw [unFz_some q]; rfl
  | .lst _ :: _, _, e => by simp [unFz] at e
  | .tup _ :: _, _, e => by simp [unFz] at e
  | .dic _ :: _, _, e => by simp [unFz] at e
end

/-! ### how a heap grows -/
structure Ext (G H G' H' : Hp) : Prop where
  g : Same G G'
  h : Same H H'
  sub : Same G' H'
  new : ∀ b o, G' b = some o → G b = some o ∨ H b = none
theorem Ext.refl {G H : Hp} (s : Same G H) : Ext G H G H := ⟨Same.refl _, Same.refl _, s, fun _ _ h => .inl h⟩
theorem Ext.trans {G H G1 H1 G2 H2 : Hp} (a : Ext G H G1 H1) (b : Ext G1 H1 G2 H2) : Ext G H G2 H2 where
  g := a.g.trans b.g
  h := a.h.trans b.h
  sub := b.sub
  new := fun c o e => by
    rcases b.new c o e with z | z
    · exact a.new c o z
    · exact .inr (a.h.free z)
/-- a new object, owned -/
theorem Ext.own {G H : Hp} {p : Addr} {o : HO} (s : Same G H) (n : H p = none) : Ext G H G (upd H p o) where
  g := Same.refl _
  h := fun b u e => by rw [upd_ne (ne_of_none e n)]; exact e
  sub := fun b u e => by rw [upd_ne (ne_of_none (s _ _ e) n)]; exact s _ _ e
  new := fun _ _ e => .inl e
/-- a new object, plain -/
theorem Ext.fz {G H : Hp} {p : Addr} {o : HO} (s : Same G H) (n : H p = none) : Ext G H (upd G p o) (upd H p o) where
  g := fun b u e => by rw [upd_ne (ne_of_none (s _ _ e) n)]; exact e
  h := fun b u e => by rw [upd_ne (ne_of_none e n)]; exact e
  sub := fun b u e => by
    by_cases h : b = p
    · rw [h, upd_same] at e ⊢; exact e
    · rw [upd_ne h] at e ⊢; exact s _ _ e
  new := fun b u e => by
    by_cases h : b = p
    · rw [h]; exact .inr n
    · rw [upd_ne h] at e; exact .inl e
/-- owned nodes taken into the ground -/
def join (G H : Hp) (fp : List Addr) : Hp := fun b => if b ∈ fp then H b else G b
theorem join_in {G H : Hp} {fp : List Addr} {b : Addr} (h : b ∈ fp) : join G H fp b = H b := if_pos h
theorem join_out {G H : Hp} {fp : List Addr} {b : Addr} (h : b ∉ fp) : join G H fp b = G b := if_neg h
theorem join_same {G H : Hp} {fp : List Addr} (s : Same G H) : Same G (join G H fp) := fun b o e => by
  by_cases h : b ∈ fp
  · rw [join_in h]; exact s _ _ e
  · rw [join_out h]; exact e
theorem join_sub {G H : Hp} {fp : List Addr} (s : Same G H) : Same (join G H fp) H := fun b o e => by
  by_cases h : b ∈ fp
  · rw [join_in h] at e; exact e
  · rw [join_out h] at e; exact s _ _ e
/-- nodes that were not there ahead, frozen at once -/
theorem Ext.freeze {G H G' H' : Hp} {fp : List Addr} (x : Ext G H G' H') (n : ∀ a ∈ fp, H a = none) : Ext G H (join G' H' fp) H' where
  g := x.g.trans (join_same x.sub)
  h := x.h
  sub := join_sub x.sub
  new := fun b o e => by
    by_cases h : b ∈ fp
    · exact .inr (n b h)
    · rw [join_out h] at e; exact x.new b o e
theorem Ext.keep {G H G' H' : Hp} (x : Ext G H G' H') {a : Addr} {o : HO} (e : H a = some o) : H' a = H a := by rw [e, x.h _ _ e]
theorem Ext.outG {G H G' H' : Hp} (x : Ext G H G' H') {a : Addr} {o : HO} (e : H a = some o) (n : G a = none) : G' a = none := by
  cases q : G' a with
  | none => rfl
  | some u =>
    rcases x.new a u q with z | z
    · rw [n] at z; cases z
    · rw [e] at z; cases z

/-! ### slots -/
structure Slot where
  own : Bool
  t : T
abbrev Ev := List (Option Slot)

/-- the state: G0, H0, io at the entry; the slots' trees, their nodes by slot -/
structure SI (L : Lk) (G0 H0 : Hp) (io : Addr → Prop) (ρ : Ev) (σ : L2.St) (G H : Hp) (f : Nat → List Addr) : Prop where
  sub : Same G H
  g0 : Same G0 G
  keep : ∀ b o, H0 b = some o → ¬ io b → H b = some o
  new : ∀ b o, G b = some o → G0 b = some o ∨ H0 b = none ∨ io b
  len : σ.length = ρ.length
  own : ∀ (i : Nat) (t : T), ρ[i]? = some (some (Slot.mk true t)) → ∃ v, σ[i]? = some (some v) ∧ RT L G H v t (f i)
  fr : ∀ i : Nat, ∀ a ∈ f i, G a = none ∧ (H0 a = none ∨ io a) ∧ ∃ o, H a = some o
  bor : ∀ (i : Nat) (t : T), ρ[i]? = some (some (Slot.mk false t)) → ∃ v fp, σ[i]? = some (some v) ∧ RT L G H v t fp ∧ ∀ a ∈ fp, ¬ io a ∧ ∃ o, H0 a = some o
  nd : ∀ i, (f i).Nodup
  dj : ∀ i j : Nat, i ≠ j → ∀ a ∈ f i, a ∉ f j

section
variable {L : Lk} {G0 H0 G H G' H' : Hp} {io : Addr → Prop} {ρ : Ev} {σ : L2.St} {f : Nat → List Addr}
theorem SI.ext (I : SI L G0 H0 io ρ σ G H f) (x : Ext G H G' H') : SI L G0 H0 io ρ σ G' H' f where
  sub := x.sub
  g0 := I.g0.trans x.g
  keep := fun b o e n => x.h _ _ (I.keep b o e n)
  new := fun b o e => by
    rcases x.new b o e with z | z
    · exact I.new b o z
    · cases q : H0 b with
      | none => exact .inr (.inl rfl)
      | some u =>
        by_cases hb : io b
        · exact .inr (.inr hb)
        · rw [I.keep b u q hb] at z; cases z
  len := I.len
  own := fun i t e => by
    obtain ⟨v, a, b⟩ := I.own i t e
    exact ⟨v, a, b.mono x.g fun c hc => by
      obtain ⟨o, q⟩ := b.there c hc
      exact x.keep q⟩
  fr := fun i a ha => by
    obtain ⟨p, q, o, r⟩ := I.fr i a ha
    exact ⟨x.outG r p, q, o, x.h _ _ r⟩
  bor := fun i t e => by
    obtain ⟨v, fp, a, b, c⟩ := I.bor i t e
    exact ⟨v, fp, a, b.mono x.g fun d hd => by
      obtain ⟨o, q⟩ := b.there d hd
      exact x.keep q, c⟩
  nd := I.nd
  dj := I.dj
end
end DP

/-! The small language and its evaluator. -/
namespace DP
open PySem PySem.Spec PyProof.Rows L2

structure Xc where
  cls : Str
  fs : List (Str × D)
/-- what an evaluation comes to: a result, an exception, nothing that is known -/
inductive R (α : Type) where
  | ok (a : α) | ex (x : Xc) | no
def R.bind {α β : Type} (r : R α) (k : α → R β) : R β := match r with
  | .ok a => k a
  | .ex x => .ex x
  | .no => .no
def R.map {α β : Type} (f : α → β) (r : R α) : R β := r.bind fun a => .ok (f a)
def R.of {α : Type} : Option α → R α
  | some a => .ok a
  | none => .no
@[simp] theorem R.bind_ok {α β : Type} (a : α) (k : α → R β) : (R.ok a).bind k = k a := rfl
@[simp] theorem R.bind_ex {α β : Type} (x : Xc) (k : α → R β) : (R.ex x : R α).bind k = .ex x := rfl
@[simp] theorem R.bind_no {α β : Type} (k : α → R β) : (R.no : R α).bind k = .no := rfl
@[simp] theorem R.of_some {α : Type} (a : α) : R.of (some a) = .ok a := rfl
@[simp] theorem R.of_none {α : Type} : R.of (none : Option α) = .no := rfl
theorem R.bind_is {α β : Type} {r : R α} {k : α → R β} {b : β} (h : r.bind k = .ok b) : ∃ a, r = .ok a ∧ k a = .ok b := by
  cases r with
  | ok a => exact ⟨a, rfl, h⟩
  | ex x => cases h
  | no => cases h
theorem R.of_is {α : Type} {o : Option α} {a : α} (h : R.of o = .ok a) : o = some a := by
  cases o with
  | some b => cases h; rfl
  | none => cases h

inductive BinO where | add | sub | mul | fdiv | mod | pow
  deriving DecidableEq
inductive CmpO where | eq | ne | lt | le | gt | ge | is | isNot | in_ | notIn
  deriving DecidableEq
inductive Bif where | len | abs | int | tuple | list | all | sum | max2 | min2 | str
  deriving DecidableEq
inductive TyN where | int | bool | str | list | tuple | dict | own (c : Str)
  deriving DecidableEq
/-- targets -/
inductive Tg where
  | nm (i : Nat) | tup (ts : List Tg)
/-- expressions; rng, enum, zip stand where something is gone through -/
inductive DE where
  | var (i : Nat) | int (i : Int) | bl (b : Bool) | non | str (s : Str) | glob (x : Str)
  | tup (es : List DE) | lst (es : List DE)
  | ix (a b : DE) | sl (a : DE) (lo hi : Option DE) | rev (a : DE)
  | bin (o : BinO) (a b : DE) | neg (a : DE)
  | cmp (o : CmpO) (a b : DE) | chain (o o' : CmpO) (a b c : DE)
  | and (a b : DE) | or (a b : DE) | not (a : DE) | ite (c a b : DE)
  | call (f : Str) (es : List DE) | bif (f : Bif) (es : List DE) | isi (a : DE) (t : TyN)
  | lc (g : Tg) (it : DE) (c : Option DE) (e : DE) (vs : List Nat)
  | rng (es : List DE) | enum (a : DE) | zip (a b : DE)
  /-- ghost: a, taken into the ground -/
  | fr (a : DE)
inductive DS where
  | asg (g : Tg) (e : DE)
  | app (p e : DE) | ext (p e : DE) | pop (g : Option Tg) (p : DE) | setIx (p i e : DE)
  | expr (e : DE)
  | ife (c : DE) (a b : List DS)
  | for_ (g : Tg) (it : DE) (b : List DS) | whil (c : DE) (b : List DS)
  | ret (e : DE) | retN | pass | brk | cont
  | raise (c : Str) (es : List DE) | raiseM (c : Str)
  /-- try: b / except c as n: y = n -/
  | tryK (b : List DS) (c : Str) (n y : Nat)
  /-- try: b / except c: y = None -/
  | tryN (b : List DS) (c : Str) (y : Nat)
  /-- no statement: what slot i holds is owned no more -/
  | frz (i : Nat)

/-- the place expressions: what they give is not their own -/
def isPl : DE → Bool
  | .var _ => true
  | .ix a _ => isPl a
  | .ite _ a b => isPl a || isPl b
  | _ => false
/-- may be laid into something -/
def sto (e : DE) (t : T) : Bool := !isPl e || isFz t
def stos : List DE → List T → Bool
  | e :: es, t :: ts => sto e t && stos es ts
  | _, _ => true

/-! ### data -/
mutual
def py : D → PyData
  | .non => .none
  | .bl b => .bool b
  | .int i => .int i
  | .str s => .str s
  | .tup xs => .tuple (pys xs)
  | .lst xs => .list (pys xs)
  | .scr ns => .list (ns.map .int)
  | .dic _ => .none
  | .exc _ _ => .none
def pys : List D → List PyData
  | [] => []
  | x :: xs => py x :: pys xs
end
mutual
/-- data that == compares: texts of sound signs, no dicts, no exceptions -/
def okD : D → Bool
  | .non => true
  | .bl _ => true
  | .int _ => true
  | .str s => PyData.strOk s
  | .tup xs => okDs xs
  | .lst xs => okDs xs
  | .scr _ => true
  | .dic _ => false
  | .exc _ _ => false
def okDs : List D → Bool
  | [] => true
  | x :: xs => okD x && okDs xs
end
/-- how deep, where it is at most 64 -/
def eqD (a b : D) : R Bool := if okD a && okD b && decide (min (py a).depth (py b).depth ≤ 64) then .ok (PyData.eqv (py a) (py b)) else .no
/-- x in xs, item by item -/
def inD (x : D) (xs : List D) : R Bool :=
  if okD x && okDs xs && decide ((py x).depth ≤ 64) then .ok (xs.any fun y => PyData.eqv (py y) (py x)) else .no
def keyD : D → Option Key
  | .int i => some (.inl i)
  | .str s => some (.inr s)
  | _ => none
def lookK {α : Type} (k : Key) : List (Key × α) → Option α
  | [] => none
  | (j, v) :: r => if j = k then some v else lookK k r
def cutL {α : Type} (xs : List α) (lo hi : Option Int) : List α := (xs.drop (HT.sIx xs.length 0 lo)).take (HT.sIx xs.length xs.length hi - HT.sIx xs.length 0 lo)

/-- a list's items, all plain -/
def plainL : T → Option (List D)
  | .fz (.lst ds) => some ds
  | .lst ts => unFz ts
  | _ => none
def dIx (t k : T) : R T := match k with
  | .fz (.int i) => (match t with
    | .fz (.tup ds) => (R.of (atI ds i)).map .fz
    | .fz (.lst ds) => (R.of (atI ds i)).map .fz
    | .fz (.scr ns) => (R.of (atI ns i)).map fun n => .fz (.int n)
    | .fz (.str s) => if s.length ≤ sizeLine then (R.of (atI s.cps.toList i)).map fun c => .fz (.str ⟨#[c]⟩) else .no
    | .lst ts => R.of (atI ts i)
    | .tup ts => R.of (atI ts i)
    | .fz (.dic kvs) => (R.of (lookK (.inl i) kvs)).map .fz
    | .dic kvs => R.of (lookK (.inl i) kvs)
    | _ => .no)
  | .fz (.str s) => (match t with
    | .fz (.dic kvs) => (R.of (lookK (.inr s) kvs)).map .fz
    | .dic kvs => R.of (lookK (.inr s) kvs)
    | _ => .no)
  | _ => .no
def dSl (t : T) (lo hi : Option Int) : R T := match t with
  | .fz (.tup ds) => .ok (.fz (.tup (cutL ds lo hi)))
  | .fz (.scr ns) => .ok (.lst ((cutL ns lo hi).map fun n => .fz (.int n)))
  | t => (match plainL t with
    | some ds => .ok (.lst ((cutL ds lo hi).map .fz))
    | none => .no)
def dBin (o : BinO) (a b : T) : R T := match o with
  | .add => (match a, b with
    | .fz (.int i), .fz (.int j) => .ok (.fz (.int (i + j)))
    | .fz (.str x), .fz (.str y) => if x.length + y.length ≤ sizeLine then .ok (.fz (.str (x ++ y))) else .no
    | .fz (.tup xs), .fz (.tup ys) => if xs.length + ys.length ≤ sizeLine then .ok (.fz (.tup (xs ++ ys))) else .no
    | a, b => (match plainL a, plainL b with
      | some xs, some ys => if xs.length + ys.length ≤ sizeLine then .ok (.lst ((xs ++ ys).map .fz)) else .no
      | _, _ => .no))
  | .sub => (match a, b with
    | .fz (.int i), .fz (.int j) => .ok (.fz (.int (i - j)))
    | _, _ => .no)
  | .mul => (match a, b with
    | .fz (.int i), .fz (.int j) => if decide (-(2 ^ 64) < i ∧ i < 2 ^ 64) || decide (-(2 ^ 64) < j ∧ j < 2 ^ 64) then .ok (.fz (.int (i * j))) else .no
    | .fz (.tup xs), .fz (.int k) => if k = 1 then .ok (.fz (.tup xs)) else if decide (xs ≠ [] ∧ 2 ≤ k ∧ k ≤ 1000 ∧ xs.length ≤ 1000) then .ok (.fz (.tup (List.replicate k.toNat xs).flatten)) else .no
    | a, .fz (.int k) => (match plainL a with
      | some xs => if decide (-(2 ^ 63) ≤ k ∧ k < 2 ^ 63 ∧ xs.length * k.toNat ≤ sizeLine) then .ok (.lst ((List.replicate k.toNat xs).flatten.map .fz)) else .no
      | none => .no)
    | _, _ => .no)
  | .fdiv => (match a, b with
    | .fz (.int i), .fz (.int j) => if decide (j ≠ 0 ∧ j.natAbs < 1073741824) then .ok (.fz (.int (i.fdiv j))) else .no
    | _, _ => .no)
  | .mod => (match a, b with
    | .fz (.int i), .fz (.int j) => if decide (j ≠ 0) then .ok (.fz (.int (i.fmod j))) else .no
    | _, _ => .no)
  | .pow => (match a, b with
    | .fz (.int i), .fz (.int j) => if decide (0 ≤ j ∧ j ≤ 1000000 ∧ i.natAbs < 2 ^ 64) then .ok (.fz (.int (i ^ j.toNat))) else .no
    | _, _ => .no)
def dIn (x y : T) : R Bool := match x with
  | .fz x => (match y with
    | .fz (.tup ds) => inD x ds
    | .fz (.dic kvs) => (match keyD x with
      | some k => .ok (lookK k kvs).isSome
      | none => .no)
    | .dic kvs => (match keyD x with
      | some k => .ok (lookK k kvs).isSome
      | none => .no)
    | .fz (.str z) => (match x with
      | .str c => .ok (!(Builtin.Str.occurrences z c 0 z.length 1).isEmpty)
      | _ => .no)
    | .fz (.lst ds) => inD x ds
    | .lst ts => inD x (ers ts)
    | _ => .no)
  | _ => .no
def isNon : T → Bool
  | .fz .non => true
  | _ => false
def dIs (a b : T) : R Bool := match b with
  | .fz .non => .ok (isNon a)
  | .fz (.bl q) => (match a with
    | .fz (.bl p) => .ok (decide (p = q))
    | _ => .no)
  | _ => .no
def dOrd (f : Int → Int → Bool) (a b : T) : R Bool := match a, b with
  | .fz (.int i), .fz (.int j) => .ok (f i j)
  | _, _ => .no
def dCmp (o : CmpO) (a b : T) : R Bool := match o with
  | .eq => eqD (er a) (er b)
  | .ne => (eqD (er a) (er b)).map (!·)
  | .lt => dOrd (fun i j => decide (i < j)) a b
  | .le => dOrd (fun i j => decide (i ≤ j)) a b
  | .gt => dOrd (fun i j => decide (j < i)) a b
  | .ge => dOrd (fun i j => decide (j ≤ i)) a b
  | .is => dIs a b
  | .isNot => (dIs a b).map (!·)
  | .in_ => dIn a b
  | .notIn => (dIn a b).map (!·)
/-- what hangs on the program -/
structure Gm where
  glob : Str → Option D
  sub : Str → Str → Option Bool
  call : Str → List T → R T
def dIsi (sub : Str → Str → Option Bool) (a : D) (t : TyN) : R Bool := match t with
  | .own c => (match a with
    | .exc k [] => R.of (sub k c)
    | .non => .ok false
    | _ => .no)
  | .int => (match a with | .exc _ _ => .no | .int _ => .ok true | .bl _ => .ok true | _ => .ok false)
  | .bool => (match a with | .exc _ _ => .no | .bl _ => .ok true | _ => .ok false)
  | .str => (match a with | .exc _ _ => .no | .str _ => .ok true | _ => .ok false)
  | .list => (match a with | .exc _ _ => .no | .lst _ => .ok true | .scr _ => .ok true | _ => .ok false)
  | .tuple => (match a with | .exc _ _ => .no | .tup _ => .ok true | _ => .ok false)
  | .dict => (match a with | .exc _ _ => .no | .dic _ => .ok true | _ => .ok false)
def isExc : D → Bool
  | .exc _ _ => true
  | _ => false
def dLen (t : T) : R Int := match t with
  | .fz (.tup ds) => .ok ds.length
  | .fz (.lst ds) => .ok ds.length
  | .fz (.scr ns) => .ok ns.length
  | .fz (.str s) => if s.length ≤ sizeLine then .ok s.length else .no
  | .fz (.dic kvs) => .ok kvs.length
  | .lst ts => .ok ts.length
  | .tup ts => .ok ts.length
  | .dic kvs => .ok kvs.length
  | _ => .no
def bools : List D → Option (List Bool)
  | [] => some []
  | .bl b :: r => (bools r).map (b :: ·)
  | _ :: _ => none
def dBif (f : Bif) (ts : List T) : R T := match f, ts with
  | .len, [t] => (dLen t).map fun n => .fz (.int n)
  | .abs, [.fz (.int i)] => .ok (.fz (.int (if i < 0 then -i else i)))
  | .int, [.fz (.int i)] => .ok (.fz (.int i))
  | .int, [.fz (.bl b)] => .ok (.fz (.int (if b then 1 else 0)))
  | .tuple, [.fz (.tup ds)] => .ok (.fz (.tup ds))
  | .tuple, [t] => (match plainL t with
    | some ds => .ok (.fz (.tup ds))
    | none => .no)
  | .list, [.fz (.tup ds)] => .ok (.lst (ds.map .fz))
  | .list, [t] => (match plainL t with
    | some ds => .ok (.lst (ds.map .fz))
    | none => .no)
  | .all, [t] => (match (plainL t).bind bools with
    | some bs => .ok (.fz (.bl (bs.all id)))
    | none => .no)
  | .max2, [.fz (.int i), .fz (.int j)] => .ok (.fz (.int (if j > i then j else i)))
  | .min2, [.fz (.int i), .fz (.int j)] => .ok (.fz (.int (if j < i then j else i)))
  | _, _ => .no
/-- what a for goes through; pl: of a place, whose own list is not gone through -/
def itemsOf (pl : Bool) (t : T) : R (List D) := match t with
  | .fz (.tup ds) => .ok ds
  | .fz (.lst ds) => .ok ds
  | .fz (.scr ns) => .ok (ns.map D.int)
  | .lst ts => if pl then .no else R.of (unFz ts)
  | _ => .no
def rngD (lo : Int) (n : Nat) : List D := (List.range n).map fun (k : Nat) => .int (lo + (k : Int))
def dRng : List T → R (List D)
  | [.fz (.int j)] => if decide (-(2 ^ 62) ≤ j ∧ j < 2 ^ 62) then .ok (rngD 0 j.toNat) else .no
  | [.fz (.int i), .fz (.int j)] => if decide (-(2 ^ 62) ≤ i ∧ i < 2 ^ 62 ∧ -(2 ^ 62) ≤ j ∧ j < 2 ^ 62) then .ok (rngD i (j - i).toNat) else .no
  | _ => .no
def dEnum (ds : List D) : List D := ds.zipIdx.map fun p => .tup [.int (p.2 : Int), p.1]
def dZip (xs ys : List D) : List D := (xs.zip ys).map fun p => .tup [p.1, p.2]

/-! ### slots -/
def setV (ρ : Ev) (i : Nat) (t : T) : Ev := ρ.set i (some ⟨true, t⟩)
mutual
/-- a target's slots -/
def gSl : Tg → List Nat
  | .nm i => [i]
  | .tup gs => gSls gs
def gSls : List Tg → List Nat
  | [] => []
  | g :: gs => gSl g ++ gSls gs
end
mutual
def bindT : Tg → T → Ev → Option Ev
  | .nm i, t, ρ => some (setV ρ i t)
  | .tup gs, .fz (.tup ds), ρ => bindF gs ds ρ
  | .tup _, _, _ => none
def bindF : List Tg → List D → Ev → Option Ev
  | [], [], ρ => some ρ
  | g :: gs, d :: ds, ρ => (bindT g (.fz d) ρ).bind (bindF gs ds)
  | _, _, _ => none
end
def wipeE (ρ : Ev) : List Nat → Ev
  | [] => ρ
  | v :: vs => (wipeE ρ vs).set v none

/-! ### expressions -/
def asB : T → R Bool
  | .fz (.bl b) => .ok b
  | _ => .no
/-- a comprehension's turns -/
def lcGo (f : D → R (Option T)) : List D → R (List T)
  | [] => .ok []
  | t :: ts => (f t).bind fun o => (lcGo f ts).map fun r => match o with
    | some x => x :: r
    | none => r
/-- no exception out of a comprehension -/
def noEx {α : Type} : R α → R α
  | .ex _ => .no
  | r => r
mutual
def ev (Γ : Gm) (ρ : Ev) : DE → R T
  | .var i => (match ρ[i]? with
    | some (some s) => .ok s.t
    | _ => .no)
  | .int i => .ok (.fz (.int i))
  | .bl b => .ok (.fz (.bl b))
  | .non => .ok (.fz .non)
  | .str s => .ok (.fz (.str s))
  | .glob x => (R.of (Γ.glob x)).map .fz
  | .tup es => (evs Γ ρ es).bind fun ts => if ts.length ≤ 64 then (match unFz ts with
    | some ds => .ok (.fz (.tup ds))
    | none => if stos es ts then .ok (.tup ts) else .no) else .no
  | .lst es => (evs Γ ρ es).bind fun ts => if ts.length ≤ 64 then (if stos es ts then .ok (.lst ts) else .no) else .no
  | .ix a b => (ev Γ ρ a).bind fun t => (ev Γ ρ b).bind fun k => dIx t k
  | .sl a lo hi => (ev Γ ρ a).bind fun t => (evo Γ ρ lo).bind fun l => (evo Γ ρ hi).bind fun h => dSl t l h
  | .rev a => (ev Γ ρ a).bind fun t => (match plainL t with
    | some ds => .ok (.lst (ds.reverse.map .fz))
    | none => .no)
  | .bin o a b => (ev Γ ρ a).bind fun x => (ev Γ ρ b).bind fun y => dBin o x y
  | .neg a => (ev Γ ρ a).bind fun x => (match x with
    | .fz (.int i) => .ok (.fz (.int (-i)))
    | _ => .no)
  | .cmp o a b => (ev Γ ρ a).bind fun x => (ev Γ ρ b).bind fun y => (dCmp o x y).map fun r => .fz (.bl r)
  | .chain o o' a b c => (ev Γ ρ a).bind fun x => (ev Γ ρ b).bind fun y => (dCmp o x y).bind fun r =>
    if r then (ev Γ ρ c).bind fun z => (dCmp o' y z).map fun q => .fz (.bl q) else .ok (.fz (.bl false))
  | .and a b => (ev Γ ρ a).bind fun x => (asB x).bind fun p => if p then (ev Γ ρ b).bind fun y => (asB y).map fun q => .fz (.bl q) else .ok (.fz (.bl false))
  | .or a b => (ev Γ ρ a).bind fun x => (asB x).bind fun p => if p then .ok (.fz (.bl true)) else (ev Γ ρ b).bind fun y => (asB y).map fun q => .fz (.bl q)
  | .not a => (ev Γ ρ a).bind fun x => (asB x).map fun p => .fz (.bl (!p))
  | .ite c a b => (ev Γ ρ c).bind fun x => (asB x).bind fun p => if p then ev Γ ρ a else ev Γ ρ b
  | .call f es => (evs Γ ρ es).bind fun ts => Γ.call f ts
  | .bif f es => (evs Γ ρ es).bind fun ts => dBif f ts
  | .isi a t => (ev Γ ρ a).bind fun x => (dIsi Γ.sub (er x) t).map fun r => .fz (.bl r)
  | .lc g it c e vs => (evi Γ ρ it).bind fun ts => (lcGo (fun d => noEx (match bindT g (.fz d) (wipeE ρ vs) with
      | none => .no
      | some ρ' => (evc Γ ρ' c).bind fun p => if p then (ev Γ ρ' e).bind fun x => if sto e x then .ok (some x) else .no else .ok none)) ts).bind fun xs =>
    if xs.length < sizeLine then .ok (.lst xs) else .no
  | .rng _ => .no
  | .enum _ => .no
  | .zip _ _ => .no
  | .fr a => if isPl a then .no else (ev Γ ρ a).map fun t => .fz (er t)
def evs (Γ : Gm) (ρ : Ev) : List DE → R (List T)
  | [] => .ok []
  | e :: es => (ev Γ ρ e).bind fun t => (evs Γ ρ es).map (t :: ·)
/-- a slice's part -/
def evo (Γ : Gm) (ρ : Ev) : Option DE → R (Option Int)
  | none => .ok none
  | some e => (ev Γ ρ e).bind fun t => (match t with
    | .fz (.int i) => .ok (some i)
    | _ => .no)
/-- a clause's test -/
def evc (Γ : Gm) (ρ : Ev) : Option DE → R Bool
  | none => .ok true
  | some e => (ev Γ ρ e).bind asB
/-- what is gone through -/
def evi (Γ : Gm) (ρ : Ev) : DE → R (List D)
  | .rng es => (evs Γ ρ es).bind dRng
  | .enum a => (ev Γ ρ a).bind fun t => (itemsOf (isPl a) t).map dEnum
  | .zip a b => (ev Γ ρ a).bind fun t => (ev Γ ρ b).bind fun u => (itemsOf (isPl a) t).bind fun xs => (itemsOf (isPl b) u).map fun ys => dZip xs ys
  | .var i => (match ρ[i]? with
    | some (some s) => itemsOf true s.t
    | _ => .no)
  | .lst es => (evs Γ ρ es).bind fun ts => if ts.length ≤ 64 then (if stos es ts then itemsOf false (.lst ts) else .no) else .no
  | .tup es => (evs Γ ρ es).bind fun ts => if ts.length ≤ 64 then R.of (unFz ts) else .no
  | .ix a b => (ev Γ ρ a).bind fun t => (ev Γ ρ b).bind fun k => (dIx t k).bind (itemsOf (isPl a))
  | .sl a lo hi => (ev Γ ρ a).bind fun t => (evo Γ ρ lo).bind fun l => (evo Γ ρ hi).bind fun h => (dSl t l h).bind (itemsOf false)
  | .call f es => (evs Γ ρ es).bind fun ts => (Γ.call f ts).bind (itemsOf false)
  | .bif f es => (evs Γ ρ es).bind fun ts => (dBif f ts).bind (itemsOf false)
  | .bin o a b => (ev Γ ρ a).bind fun x => (ev Γ ρ b).bind fun y => (dBin o x y).bind (itemsOf false)
  | .fr a => if isPl a then .no else (ev Γ ρ a).bind fun t => itemsOf false (.fz (er t))
  | _ => .no
end

/-! ### statements -/
inductive Out where
  | nx (ρ : Ev) | ret (t : T) | brk (ρ : Ev) | cont (ρ : Ev) | ex (x : Xc) (ρ : Ev) | no
/-- an expression ahead of what follows -/
def R.out {α : Type} (ρ : Ev) (r : R α) (k : α → Out) : Out := match r with
  | .ok a => k a
  | .ex x => .ex x ρ
  | .no => .no
@[simp] theorem R.out_ok {α : Type} (ρ : Ev) (a : α) (k : α → Out) : (R.ok a).out ρ k = k a := rfl
@[simp] theorem R.out_no {α : Type} (ρ : Ev) (k : α → Out) : (R.no : R α).out ρ k = .no := rfl
@[simp] theorem R.out_ex {α : Type} (ρ : Ev) (x : Xc) (k : α → Out) : (R.ex x : R α).out ρ k = .ex x ρ := rfl
def Out.then (o : Out) (k : Ev → Out) : Out := match o with
  | .nx ρ => k ρ
  | o => o
@[simp] theorem Out.then_nx (ρ : Ev) (k : Ev → Out) : (Out.nx ρ).then k = k ρ := rfl
@[simp] theorem Out.then_ret (t : T) (k : Ev → Out) : (Out.ret t).then k = .ret t := rfl
@[simp] theorem Out.then_brk (ρ : Ev) (k : Ev → Out) : (Out.brk ρ).then k = .brk ρ := rfl
@[simp] theorem Out.then_cont (ρ : Ev) (k : Ev → Out) : (Out.cont ρ).then k = .cont ρ := rfl
@[simp] theorem Out.then_ex (x : Xc) (ρ : Ev) (k : Ev → Out) : (Out.ex x ρ).then k = .ex x ρ := rfl
@[simp] theorem Out.then_no (k : Ev → Out) : (Out.no).then k = .no := rfl
def Out.of : Option Ev → Out
  | some ρ => .nx ρ
  | none => .no

/-- the path of a place: the slot, the steps into it -/
def path (Γ : Gm) (ρ : Ev) : DE → R (Nat × List Int)
  | .var i => .ok (i, [])
  | .ix a b => (path Γ ρ a).bind fun p => (ev Γ ρ b).bind fun k => (match k with
    | .fz (.int j) => .ok (p.1, p.2 ++ [j])
    | _ => .no)
  | _ => .no
/-- a place is a slot that holds a list of its own -/
def ownL (ρ : Ev) : DE → Bool
  | .var i => (match ρ[i]? with
    | some (some ⟨true, .lst _⟩) => true
    | _ => false)
  | _ => false
/-- the place of an index, as it is among n -/
def ixOf (n : Nat) (i : Int) : Option Nat := ixN n i
/-- f at the end of a path in a tree -/
def modT (f : T → Option T) : List Int → T → Option T
  | [], t => f t
  | i :: is, .lst ts => (ixOf ts.length i).bind fun k => (ts[k]?).bind fun t => (modT f is t).map fun t' => .lst (ts.set k t')
  | i :: is, .tup ts => (ixOf ts.length i).bind fun k => (ts[k]?).bind fun t => (modT f is t).map fun t' => .tup (ts.set k t')
  | _, _ => none
def modV (ρ : Ev) (p : Nat × List Int) (f : T → Option T) : Option Ev := match ρ[p.1]? with
  | some (some ⟨true, t⟩) => (modT f p.2 t).map fun t' => ρ.set p.1 (some ⟨true, t'⟩)
  | _ => none
def fApp (x : T) : T → Option T
  | .lst ts => if ts.length < sizeLine then some (.lst (ts ++ [x])) else none
  | _ => none
def fPop : T → Option T
  | .lst ts => some (.lst ts.dropLast)
  | _ => none
def lastT : T → Option T
  | .lst ts => ts[ts.length - 1]?
  | _ => none
def fExt (xs : List D) : T → Option T
  | .lst ts => if ts.length + xs.length ≤ sizeLine then some (.lst (ts ++ xs.map .fz)) else none
  | _ => none
def fSet (i : Int) (x : T) : T → Option T
  | .lst ts => (ixOf ts.length i).map fun k => .lst (ts.set k x)
  | _ => none
def setIxR (ρ : Ev) (p : Nat × List Int) (k x : T) : Option Ev := match k with
  | .fz (.int i) => modV ρ p (fSet i x)
  | _ => none
def forGo (g : Tg) (b : Ev → Out) : List D → Ev → Out
  | [], ρ => .nx ρ
  | t :: ts, ρ => (match bindT g (.fz t) ρ with
    | none => .no
    | some ρ' => (match b ρ' with
      | .nx ρ2 => forGo g b ts ρ2
      | .cont ρ2 => forGo g b ts ρ2
      | .brk ρ2 => .nx ρ2
      | o => o))
def whilGo (c : Ev → R Bool) (b : Ev → Out) : Nat → Ev → Out
  | 0, _ => .no
  | m + 1, ρ => (match c ρ with
    | .ok true => (match b ρ with
      | .nx ρ2 => whilGo c b m ρ2
      | .cont ρ2 => whilGo c b m ρ2
      | .brk ρ2 => .nx ρ2
      | o => o)
    | .ok false => .nx ρ
    | .ex x => .ex x ρ
    | .no => .no)
def frzV (ρ : Ev) (i : Nat) : Option Ev := match ρ[i]? with
  | some (some ⟨true, t⟩) => some (ρ.set i (some ⟨true, .fz (er t)⟩))
  | _ => none
mutual
/-- m: how often a while goes round at most; how exceptions are made: mk -/
def st (Γ : Gm) (mk : Str → List D → Option Xc) (m : Nat) (ρ : Ev) : DS → Out
  | .asg g e => (ev Γ ρ e).out ρ fun t => if sto e t then Out.of (bindT g t ρ) else .no
  | .app p e => if ownL ρ p then (path Γ ρ p).out ρ fun q => (ev Γ ρ e).out ρ fun t => if sto e t then Out.of (modV ρ q (fApp t)) else .no else .no
  | .ext p e => if ownL ρ p then (path Γ ρ p).out ρ fun q => (ev Γ ρ e).out ρ fun t => (match plainL t with
    | some xs => Out.of (modV ρ q (fExt xs))
    | none => .no) else .no
  | .pop g p => (path Γ ρ p).out ρ fun q => (ev Γ ρ p).out ρ fun t => (match lastT t with
    | some (.fz d) => (match modV ρ q fPop with
      | some ρ' => (match g with
        | some g => Out.of (bindT g (.fz d) ρ')
        | none => .nx ρ')
      | none => .no)
    | _ => .no)
  | .setIx p i e => (ev Γ ρ e).out ρ fun t => (path Γ ρ p).out ρ fun q => (ev Γ ρ i).out ρ fun k => if sto e t then Out.of (setIxR ρ q k t) else .no
  | .expr e => (ev Γ ρ e).out ρ fun _ => .nx ρ
  | .ife c a b => ((ev Γ ρ c).bind asB).out ρ fun p => if p then sts Γ mk m ρ a else sts Γ mk m ρ b
  | .for_ g it b => (evi Γ ρ it).out ρ fun ts => forGo g (fun ρ => sts Γ mk m ρ b) ts ρ
  | .whil c b => whilGo (fun ρ => (ev Γ ρ c).bind asB) (fun ρ => sts Γ mk m ρ b) m ρ
  | .ret (.var i) => (match ρ[i]? with
    | some (some ⟨true, t⟩) => .ret t
    | some (some ⟨false, .fz d⟩) => .ret (.fz d)
    | _ => .no)
  | .ret e => (ev Γ ρ e).out ρ fun t => if sto e t then .ret t else .no
  | .retN => .ret (.fz .non)
  | .pass => .nx ρ
  | .brk => .brk ρ
  | .cont => .cont ρ
  | .raise c es => (evs Γ ρ es).out ρ fun ts => (match (unFz ts).bind (mk c) with
    | some x => .ex x ρ
    | none => .no)
  | .raiseM c => .ex ⟨c, []⟩ ρ
  | .tryK b c n y => (match sts Γ mk m ρ b with
    | .ex x ρ' => (match Γ.sub x.cls c with
      | some true => .nx ((setV ρ' y (.fz (.exc x.cls x.fs))).set n none)
      | some false => .ex x ρ'
      | none => .no)
    | o => o)
  | .tryN b c y => (match sts Γ mk m ρ b with
    | .ex x ρ' => (match Γ.sub x.cls c with
      | some true => .nx (setV ρ' y (.fz .non))
      | some false => .ex x ρ'
      | none => .no)
    | o => o)
  | .frz i => Out.of (frzV ρ i)
def sts (Γ : Gm) (mk : Str → List D → Option Xc) (m : Nat) (ρ : Ev) : List DS → Out
  | [] => .nx ρ
  | s :: ss => (st Γ mk m ρ s).then fun ρ' => sts Γ mk m ρ' ss
end

/-! ### a program's defs -/
structure Df where
  ps : Nat
  n : Nat
  body : List DS
structure Pg where
  defs : Str → Option Df
  glob : Str → Option D
  sub : Str → Str → Option Bool
  mkX : Str → List D → Option Xc
/-- a call's slots: the parameters borrowed -/
def callE (df : Df) (ts : List T) : Ev := ts.map (fun t => some ⟨false, t⟩) ++ List.replicate (df.n - ts.length) none
/-- defs called k deep, whiles m long -/
def callK (P : Pg) (m : Nat) : Nat → Str → List T → R T
  | 0, _, _ => .no
  | k + 1, f, ts => (match P.defs f with
    | none => .no
    | some df => if ts.length = df.ps then (match sts ⟨P.glob, P.sub, callK P m k⟩ P.mkX m (callE df ts) df.body with
      | .nx _ => .ok (.fz .non)
      | .ret t => .ok t
      | .ex x _ => .ex x
      | _ => .no) else .no)
def Pg.gm (P : Pg) (m k : Nat) : Gm := ⟨P.glob, P.sub, callK P m k⟩
end DP

/-! The evaluator is right: expressions. -/
namespace DP
open PySem PySem.Spec PyProof.Rows L2

theorem PE.of {X : Cx} {e : Expr} {t t' : TE} (h : PE X e t) (k : ∀ σ H Q, t' σ H Q → t σ H Q) : PE X e t' := ⟨fun pins s σ H Q I q => h.run pins s σ H Q I (k σ H Q q)⟩
theorem PT.of {X : Cx} {e : Expr} {t t' : TT} (h : PT X e t) (k : ∀ σ H Q, t' σ H Q → t σ H Q) : PT X e t' := ⟨fun pins s σ H Q I q => h.run pins s σ H Q I (k σ H Q q)⟩
theorem PW.of {X : Cx} {e : Expr} {t t' : TT} (h : PW X e t) (k : ∀ σ H Q, t' σ H Q → t σ H Q) : PW X e t' := ⟨fun wh pins s σ H Q I q => h.run wh pins s σ H Q I (k σ H Q q)⟩
theorem PA.of {X : Cx} {e : List Expr} {t t' : TA} (h : PA X e t) (k : ∀ σ H Q, t' σ H Q → t σ H Q) : PA X e t' := ⟨fun pos pins s σ H Q I q => h.run pos pins s σ H Q I (k σ H Q q)⟩
theorem PO.of {X : Cx} {e : Option Expr} {t t' : TO} (h : PO X e t) (k : ∀ σ H Q, t' σ H Q → t σ H Q) : PO X e t' := ⟨fun pins s σ H Q I q => h.run pins s σ H Q I (k σ H Q q)⟩
theorem PS.of {X : Cx} {e : Stmt} {t t' : TS} (h : PS X e t) (k : ∀ D σ H, t' D σ H → t D σ H) : PS X e t' := ⟨fun pins s σ H D I q => h.run pins s σ H D I (k D σ H q)⟩
theorem PSs.of {X : Cx} {e : List Stmt} {t t' : TS} (h : PSs X e t) (k : ∀ D σ H, t' D σ H → t D σ H) : PSs X e t' := ⟨fun pins s σ H D I q => h.run pins s σ H D I (k D σ H q)⟩
theorem PG.of {X : Cx} {e : Expr} {t t' : TG} (h : PG X e t) (k : ∀ v σ H Q, t' v σ H Q → t v σ H Q) : PG X e t' := ⟨fun pins s σ H v u Q I r q => h.run pins s σ H v u Q I r (k v σ H Q q)⟩
theorem PGs.of {X : Cx} {e : List Expr} {t t' : TGs} (h : PGs X e t) (k : ∀ v σ H Q, t' v σ H Q → t v σ H Q) : PGs X e t' := ⟨fun pins s σ H v u Q I r q => h.run pins s σ H v u Q I r (k v σ H Q q)⟩
theorem PI.of {X : Cx} {tg e : Expr} {t t' : TI} (h : PI X tg e t) (k : ∀ σ H Q, t' σ H Q → t σ H Q) : PI X tg e t' := ⟨fun pins s σ H Q I q => h.run pins s σ H Q I (k σ H Q q)⟩
theorem PE.or {X : Cx} {e : Expr} {t u : TE} (h : PE X e t) (h' : PE X e u) : PE X e (fun σ H Q => t σ H Q ∨ u σ H Q) := ⟨fun pins s σ H Q I q => q.elim (h.run pins s σ H Q I) (h'.run pins s σ H Q I)⟩
theorem PI.or {X : Cx} {tg e : Expr} {t u : TI} (h : PI X tg e t) (h' : PI X tg e u) : PI X tg e (fun σ H Q => t σ H Q ∨ u σ H Q) := ⟨fun pins s σ H Q I q => q.elim (h.run pins s σ H Q I) (h'.run pins s σ H Q I)⟩
theorem OpR.or {X : Cx} {f : Value → Value → Sem Value} {r r' : R2} (h : OpR X f r) (h' : OpR X f r') : OpR X f (fun x y H Q => r x y H Q ∨ r' x y H Q) := by
  intro pins s σ H x y v u Q I rx ry q
  exact q.elim (h pins s σ H x y v u Q I rx ry) (h' pins s σ H x y v u Q I rx ry)
theorem OpR.ex {X : Cx} {f : Value → Value → Sem Value} {ι : Type} {r : ι → R2} (h : ∀ i, OpR X f (r i)) : OpR X f (fun x y H Q => ∃ i, r i x y H Q) := by
  intro pins s σ H x y v u Q I rx ry ⟨i, q⟩
  exact h i pins s σ H x y v u Q I rx ry q
theorem OpR.of {X : Cx} {f : Value → Value → Sem Value} {r r' : R2} (h : OpR X f r) (k : ∀ x y H Q, r' x y H Q → r x y H Q) : OpR X f r' := by
  intro pins s σ H x y v u Q I rx ry q
  exact h pins s σ H x y v u Q I rx ry (k x y H Q q)

/-! ### where one stands -/
def At (L : Lk) (ρ : Ev) (σ : L2.St) (G H : Hp) : Prop := ∃ G0 H0 io f, SI L G0 H0 io ρ σ G H f
theorem At.ext {L : Lk} {ρ : Ev} {σ : L2.St} {G H G' H' : Hp} (a : At L ρ σ G H) (x : Ext G H G' H') : At L ρ σ G' H' := by
  obtain ⟨G0, H0, io, f, I⟩ := a
  exact ⟨G0, H0, io, f, I.ext x⟩
theorem At.sub {L : Lk} {ρ : Ev} {σ : L2.St} {G H : Hp} (a : At L ρ σ G H) : Same G H := by
  obtain ⟨G0, H0, io, f, I⟩ := a
  exact I.sub
theorem At.slot {L : Lk} {ρ : Ev} {σ : L2.St} {G H : Hp} (a : At L ρ σ G H) {i : Nat} {s : Slot} (e : ρ[i]? = some (some s)) : ∃ v fp, σ[i]? = some (some v) ∧ RT L G H v s.t fp := by
  obtain ⟨G0, H0, io, f, I⟩ := a
  obtain ⟨b, t⟩ := s
  cases b with
  | true =>
    obtain ⟨v, p, q⟩ := I.own i t e
    exact ⟨v, _, p, q⟩
  | false =>
    obtain ⟨v, fp, p, q, _⟩ := I.bor i t e
    exact ⟨v, fp, p, q⟩

def Fresh (H G' : Hp) (fp : List Addr) : Prop := fp.Nodup ∧ ∀ a ∈ fp, H a = none ∧ G' a = none
theorem Fresh.nil {H G' : Hp} : Fresh H G' [] := ⟨List.nodup_nil, fun _ h => nomatch h⟩
structure Post (L : Lk) (G H : Hp) (pl : Bool) (t : T) (v : V) (G' H' : Hp) : Prop where
  x : Ext G H G' H'
  r : ∃ fp, RT L G' H' v t fp ∧ (pl = true ∨ Fresh H G' fp)
structure PostA (L : Lk) (G H : Hp) (es : List DE) (ts : List T) (vs : List V) (G' H' : Hp) : Prop where
  x : Ext G H G' H'
  r : ∃ fp, RTs L G' H' vs ts fp ∧ (stos es ts = true → Fresh H G' fp)
/-- an exception's class and fields, in the ground -/
def RX (L : Lk) (G : Hp) (x : Xc) (cls : Value) (d : Option Addr) : Prop :=
  ∃ C, L.mg x.cls = some (.ref C) ∧ cls = .ref C ∧ ((x.fs = [] ∧ d = none) ∨ ∃ dd fvs, x.fs ≠ [] ∧ d = some dd ∧ G dd = some (.xd fvs) ∧ RDf L G fvs x.fs)

/-- what is wanted of a result -/
def Cn {α β : Type} (L : Lk) (W : WX) (σ : L2.St) (P : Hp → Hp → α → β → Hp → Hp → Prop) (Q : β → Hp → Prop) (G H : Hp) (r : R α) : Prop := match r with
  | .ok t => ∀ v G' H', P G H t v G' H' → Q v H'
  | .ex x => ∀ cls d G' H', Ext G H G' H' → RX L G' x cls d → W cls d σ H'
  | .no => False
/-- a condition that may be asked from further on -/
class Mono {α β : Type} (P : Hp → Hp → α → β → Hp → Hp → Prop) : Prop where
  up : ∀ {G H G1 H1 t v G' H'}, Ext G H G1 H1 → P G1 H1 t v G' H' → P G H t v G' H'
theorem Fresh.up {G H G1 H1 G' : Hp} {fp : List Addr} (x : Ext G H G1 H1) (f : Fresh H1 G' fp) : Fresh H G' fp := ⟨f.1, fun a h => ⟨x.h.free (f.2 a h).1, (f.2 a h).2⟩⟩
instance (L : Lk) (pl : Bool) : Mono (fun G H => Post L G H pl) where
  up := fun x p => ⟨x.trans p.x, let ⟨fp, r, f⟩ := p.r; ⟨fp, r, f.imp id (Fresh.up x)⟩⟩
instance (L : Lk) (es : List DE) : Mono (fun G H => PostA L G H es) where
  up := fun x p => ⟨x.trans p.x, let ⟨fp, r, f⟩ := p.r; ⟨fp, r, fun s => Fresh.up x (f s)⟩⟩
/-- for plain results: only the heap grows -/
def PostP {α : Type} (G H : Hp) (t v : α) (G' H' : Hp) : Prop := Ext G H G' H' ∧ t = v
instance {α : Type} : Mono (fun G H => @PostP α G H) where
  up := fun x p => ⟨x.trans p.1, p.2⟩
section
variable {L : Lk} {W : WX} {σ : L2.St} {G H G1 H1 : Hp} {Γ : Gm} {ρ : Ev}
theorem Cn.ext {α β : Type} {P : Hp → Hp → α → β → Hp → Hp → Prop} [m : Mono P] {Q : β → Hp → Prop} {r : R α} (x : Ext G H G1 H1) (c : Cn L W σ P Q G H r) : Cn L W σ P Q G1 H1 r := by
  cases r with
  | ok t => exact fun v G' H' p => c v G' H' (m.up x p)
  | ex e => exact fun cls d G' H' y q => c cls d G' H' (x.trans y) q
  | no => exact c
abbrev CnE (L : Lk) (W : WX) (σ : L2.St) (pl : Bool) (Q : VK) (G H : Hp) (r : R T) : Prop := Cn L W σ (fun G H => Post L G H pl) Q G H r
abbrev CnA (L : Lk) (W : WX) (σ : L2.St) (es : List DE) (Q : List V → Hp → Prop) (G H : Hp) (r : R (List T)) : Prop := Cn L W σ (fun G H => PostA L G H es) Q G H r
abbrev CnP {α : Type} (L : Lk) (W : WX) (σ : L2.St) (Q : α → Hp → Prop) (G H : Hp) (r : R α) : Prop := Cn L W σ (fun G H => PostP G H) Q G H r
/-- the readings of the language's expressions -/
def tE (L : Lk) (Γ : Gm) (W : WX) (e : DE) : TE := fun σ H Q => ∃ ρ G, At L ρ σ G H ∧ CnE L W σ (isPl e) Q G H (ev Γ ρ e)
def tA (L : Lk) (Γ : Gm) (W : WX) (es : List DE) : TA := fun σ H Q => ∃ ρ G, At L ρ σ G H ∧ CnA L W σ es Q G H (evs Γ ρ es)
def tB (L : Lk) (Γ : Gm) (W : WX) (e : DE) : TT := fun σ H Q => ∃ ρ G, At L ρ σ G H ∧ CnP L W σ Q G H ((ev Γ ρ e).bind asB)
def tO (L : Lk) (Γ : Gm) (W : WX) (e : Option DE) : TO := fun σ H Q => ∃ ρ G, At L ρ σ G H ∧ CnP L W σ Q G H (evo Γ ρ e)
/-- a part first: it comes to a result, or the whole comes to its exception. The wish c stands at Gb, Hb, further back -/
theorem sub {α β γ δ : Type} {P : Hp → Hp → α → β → Hp → Hp → Prop} [m : Mono P] {Q : β → Hp → Prop} {P' : Hp → Hp → γ → δ → Hp → Hp → Prop} {Q1 : δ → Hp → Prop} {r : R γ} {k : γ → R α} {Gb Hb : Hp}
    (A : At L ρ σ G H) (x : Ext Gb Hb G H) (c : Cn L W σ P Q Gb Hb (r.bind k)) (hx : ∀ {t v G1 H1}, P' G H t v G1 H1 → Ext G H G1 H1)
    (h : ∀ t v G1 H1, P' G H t v G1 H1 → At L ρ σ G1 H1 → Ext Gb Hb G1 H1 → Cn L W σ P Q Gb Hb (k t) → Q1 v H1) : Cn L W σ P' Q1 G H r := by
  cases r with
  | ok t => exact fun v G1 H1 p => h t v G1 H1 p (A.ext (hx p)) (x.trans (hx p)) c
  | ex e => exact fun cls d G' H' y q => c cls d G' H' (x.trans y) q
  | no => exact c
theorem sub' {α β γ δ : Type} {P : Hp → Hp → α → β → Hp → Hp → Prop} [m : Mono P] {Q : β → Hp → Prop} {P' : Hp → Hp → γ → δ → Hp → Hp → Prop} {Q1 : δ → Hp → Prop} {r : R γ} {k : γ → R α} {Gb Hb : Hp}
    (A : At L ρ σ G H) (x : Ext Gb Hb G H) (c : Cn L W σ P Q Gb Hb (r.bind k)) (hx : ∀ {t v G1 H1}, P' G H t v G1 H1 → Ext G H G1 H1)
    (h : ∀ t v G1 H1, r = .ok t → P' G H t v G1 H1 → At L ρ σ G1 H1 → Ext Gb Hb G1 H1 → Cn L W σ P Q Gb Hb (k t) → Q1 v H1) : Cn L W σ P' Q1 G H r := by
  cases r with
  | ok t => exact fun v G1 H1 p => h t v G1 H1 rfl p (A.ext (hx p)) (x.trans (hx p)) c
  | ex e => exact fun cls d G' H' y q => c cls d G' H' (x.trans y) q
  | no => exact c
theorem subE' {α β : Type} {P : Hp → Hp → α → β → Hp → Hp → Prop} [m : Mono P] {Q : β → Hp → Prop} {Gb Hb : Hp} {Q1 : VK} {a : DE} {k : T → R α} (A : At L ρ σ G H) (x : Ext Gb Hb G H) (c : Cn L W σ P Q Gb Hb ((ev Γ ρ a).bind k))
    (h : ∀ t v G1 H1, ev Γ ρ a = .ok t → Post L G H (isPl a) t v G1 H1 → At L ρ σ G1 H1 → Ext Gb Hb G1 H1 → Cn L W σ P Q Gb Hb (k t) → Q1 v H1) : tE L Γ W a σ H Q1 :=
  ⟨ρ, G, A, sub' A x c (fun p => p.x) h⟩
theorem subA' {α β : Type} {P : Hp → Hp → α → β → Hp → Hp → Prop} [m : Mono P] {Q : β → Hp → Prop} {Gb Hb : Hp} {Q1 : List V → Hp → Prop} {a : List DE} {k : List T → R α} (A : At L ρ σ G H) (x : Ext Gb Hb G H) (c : Cn L W σ P Q Gb Hb ((evs Γ ρ a).bind k))
    (h : ∀ t v G1 H1, evs Γ ρ a = .ok t → PostA L G H a t v G1 H1 → At L ρ σ G1 H1 → Ext Gb Hb G1 H1 → Cn L W σ P Q Gb Hb (k t) → Q1 v H1) : tA L Γ W a σ H Q1 :=
  ⟨ρ, G, A, sub' A x c (fun p => p.x) h⟩
section
variable {α β : Type} {P : Hp → Hp → α → β → Hp → Hp → Prop} [m : Mono P] {Q : β → Hp → Prop} {Gb Hb : Hp}
theorem subE {Q1 : VK} {a : DE} {k : T → R α} (A : At L ρ σ G H) (x : Ext Gb Hb G H) (c : Cn L W σ P Q Gb Hb ((ev Γ ρ a).bind k))
    (h : ∀ t v G1 H1, Post L G H (isPl a) t v G1 H1 → At L ρ σ G1 H1 → Ext Gb Hb G1 H1 → Cn L W σ P Q Gb Hb (k t) → Q1 v H1) : tE L Γ W a σ H Q1 :=
  ⟨ρ, G, A, sub A x c (fun p => p.x) h⟩
theorem subA {Q1 : List V → Hp → Prop} {a : List DE} {k : List T → R α} (A : At L ρ σ G H) (x : Ext Gb Hb G H) (c : Cn L W σ P Q Gb Hb ((evs Γ ρ a).bind k))
    (h : ∀ t v G1 H1, PostA L G H a t v G1 H1 → At L ρ σ G1 H1 → Ext Gb Hb G1 H1 → Cn L W σ P Q Gb Hb (k t) → Q1 v H1) : tA L Γ W a σ H Q1 :=
  ⟨ρ, G, A, sub A x c (fun p => p.x) h⟩
theorem subB {Q1 : Bool → Hp → Prop} {a : DE} {k : Bool → R α} (A : At L ρ σ G H) (x : Ext Gb Hb G H) (c : Cn L W σ P Q Gb Hb (((ev Γ ρ a).bind asB).bind k))
    (h : ∀ b G1 H1, Ext G H G1 H1 → At L ρ σ G1 H1 → Ext Gb Hb G1 H1 → Cn L W σ P Q Gb Hb (k b) → Q1 b H1) : tB L Γ W a σ H Q1 :=
  ⟨ρ, G, A, sub A x c (fun p => p.1) fun t v G1 H1 p A1 x1 c1 => by cases p.2; exact h t G1 H1 p.1 A1 x1 c1⟩
theorem subO {Q1 : Option Int → Hp → Prop} {a : Option DE} {k : Option Int → R α} (A : At L ρ σ G H) (x : Ext Gb Hb G H) (c : Cn L W σ P Q Gb Hb ((evo Γ ρ a).bind k))
    (h : ∀ b G1 H1, Ext G H G1 H1 → At L ρ σ G1 H1 → Ext Gb Hb G1 H1 → Cn L W σ P Q Gb Hb (k b) → Q1 b H1) : tO L Γ W a σ H Q1 :=
  ⟨ρ, G, A, sub A x c (fun p => p.1) fun t v G1 H1 p A1 x1 c1 => by cases p.2; exact h t G1 H1 p.1 A1 x1 c1⟩
end
theorem bind_assoc {α β γ : Type} (r : R α) (f : α → R β) (g : β → R γ) : (r.bind f).bind g = r.bind fun a => (f a).bind g := by
  cases r <;> rfl
/-- plain data handed on as it is -/
theorem Cn.fz {pl : Bool} {Q : VK} {d : D} {v : V} (s : Same G H) (c : CnE L W σ pl Q G H (.ok (.fz d))) (r : RD L G v d) : Q v H :=
  c v G H ⟨Ext.refl s, [], .fz r, .inr Fresh.nil⟩
/-- a new plain object -/
theorem Cn.newFz {pl : Bool} {Q : VK} {d : D} {p : Addr} {o : HO} (s : Same G H) (c : CnE L W σ pl Q G H (.ok (.fz d))) (n : H p = none) (r : RD L (upd G p o) (.ref p) d) : Q (.ref p) (upd H p o) :=
  c _ _ _ ⟨Ext.fz s n, [], .fz r, .inr Fresh.nil⟩
theorem new_same {G H : Hp} {p : Addr} {o : HO} (s : Same G H) (n : H p = none) : Same G (upd G p o) := (Ext.fz (o := o) s n).g
/-- a new list of plain things, owned -/
theorem Cn.newL {pl : Bool} {Q : VK} {ds : List D} {vs : List V} {p : Addr} (s : Same G H) (c : CnE L W σ pl Q G H (.ok (.lst (ds.map .fz)))) (n : H p = none) (r : RDs L G vs ds) : Q (.ref p) (upd H p (.lst vs)) := by
  refine c _ _ _ ⟨Ext.own s n, [p], .lst upd_same (RTs.of_plain r), .inr ⟨by simp, fun a h => ?_⟩⟩
  have e : a = p := by simpa using h
  subst e
  exact ⟨n, s.free n⟩
end
end DP

/-! Whether a text is an expression of the language; values of operators. -/
namespace DP
open PySem PySem.Spec PyProof.Rows L2

/-! ### the text -/
def visB (N : List Str) (sc : Scope) (i : Nat) (x : Str) : Bool :=
  decide (N[i]? = some x) && (match sc.names.lookup x with | some .local => true | some .cell => true | some .free => true | _ => false) && !(x == ("__debug__" : Str)) && !(x == ("__classdict__" : Str))
def locB (fn : Str → Bool) (N : List Str) (sc : Scope) (i : Nat) (x : Str) : Bool := decide (N[i]? = some x) && (match sc.names.lookup x with | some .local => true | some .cell => fn x | _ => false)
def glB (sc : Scope) (x : Str) : Bool := (match sc.names.lookup x with | some .globalImplicit => true | _ => false) && !(x == ("__debug__" : Str)) && !(x == ("__name__" : Str))
def noStar : Expr → Bool
  | .Starred _ _ => false
  | _ => true
def noSlice : Expr → Bool
  | .Slice _ _ _ _ => false
  | .Tuple _ _ _ => false
  | _ => true
def noSet : Expr → Bool
  | .Set _ _ _ => false
  | _ => true
def opB : BinO → Operator → Bool
  | .add, .Add => true | .sub, .Sub => true | .mul, .Mult => true | .fdiv, .FloorDiv => true | .mod, .Mod => true | .pow, .Pow => true
  | _, _ => false
def cmB : CmpO → CmpOp → Bool
  | .eq, .Eq => true | .ne, .NotEq => true | .lt, .Lt => true | .le, .LtE => true | .gt, .Gt => true | .ge, .GtE => true
  | .is, .Is => true | .isNot, .IsNot => true | .in_, .In => true | .notIn, .NotIn => true
  | _, _ => false
def bifN : Bif → Str
  | .len => "len" | .abs => "abs" | .int => "int" | .tuple => "tuple" | .list => "list" | .all => "all" | .sum => "sum" | .max2 => "max" | .min2 => "min" | .str => "str"
def tynB (C : Str → Bool) (t : TyN) (x : Str) : Bool := match t with
  | .int => x == "int" | .bool => x == "bool" | .str => x == "str" | .list => x == "list" | .tuple => x == "tuple" | .dict => x == "dict" | .own c => x == c && C c
def bifB : Bif → Bool
  | .sum => false
  | .str => false
  | _ => true
def lcB (_ : Expr) : Bool := true
def relC (scope sc : Scope) : Scope := relS scope sc
mutual
def mG (fn : Str → Bool) (N : List Str) (sc : Scope) : Tg → Expr → Bool
  | .nm i, .Name x _ => locB fn N sc i x
  | .tup gs, .Tuple es _ _ => mGs fn N sc gs es
  | _, _ => false
def mGs (fn : Str → Bool) (N : List Str) (sc : Scope) : List Tg → List Expr → Bool
  | [], [] => true
  | g :: gs, e :: es => mG fn N sc g e && mGs fn N sc gs es
  | _, _ => false
end
mutual
def mE (F C : Str → Bool) (N : List Str) (sc : Scope) : DE → Expr → Bool
  | .var i, x => (match x with | .Name y _ => visB N sc i y | _ => false)
  | .int i, x => (match x with | .Constant (.int j) _ _ => decide (i = j) | _ => false)
  | .bl b, x => (match x with | .Constant (.bool c) _ _ => decide (b = c) | _ => false)
  | .non, x => (match x with | .Constant .none _ _ => true | _ => false)
  | .str s, x => (match x with | .Constant (.str z) _ _ => decide (s = z) | _ => false)
  | .glob g, x => (match x with | .Name y _ => decide (g = y) && glB sc y | _ => false)
  | .tup es, x => (match x with | .Tuple xs _ _ => mEs F C N sc es xs | _ => false)
  | .lst es, x => (match x with | .List xs _ => mEs F C N sc es xs | _ => false)
  | .ix a b, x => (match x with | .Subscript y z _ => mE F C N sc a y && mE F C N sc b z && noSlice z | _ => false)
  | .sl a lo hi, x => (match x with | .Subscript y (.Slice l u none _) _ => mE F C N sc a y && mO F C N sc lo l && mO F C N sc hi u | _ => false)
  | .rev a, x => (match x with | .Subscript y (.Slice none none (some (.UnaryOp .USub (.Constant (.int 1) _ _) _)) _) _ => mE F C N sc a y | _ => false)
  | .bin o a b, x => (match x with | .BinOp y op z _ => opB o op && mE F C N sc a y && mE F C N sc b z | _ => false)
  | .neg a, x => (match x with | .UnaryOp .USub y _ => mE F C N sc a y | _ => false)
  | .cmp o a b, x => (match x with | .Compare y [op] [z] _ => cmB o op && mE F C N sc a y && mE F C N sc b z && noSet z | _ => false)
  | .chain o o' a b c, x => (match x with | .Compare y [op, op'] [z, u] _ => cmB o op && cmB o' op' && mE F C N sc a y && mE F C N sc b z && mE F C N sc c u && noSet z && noSet u | _ => false)
  | .and a b, x => (match x with
    | .BoolOp .And [y, z] _ => mE F C N sc a y && mE F C N sc b z
    | .BoolOp .And (y :: z :: u :: r) p => mE F C N sc a y && mE F C N sc b (.BoolOp .And (z :: u :: r) p)
    | _ => false)
  | .or a b, x => (match x with
    | .BoolOp .Or [y, z] _ => mE F C N sc a y && mE F C N sc b z
    | .BoolOp .Or (y :: z :: u :: r) p => mE F C N sc a y && mE F C N sc b (.BoolOp .Or (z :: u :: r) p)
    | _ => false)
  | .not a, x => (match x with | .UnaryOp .Not y _ => mE F C N sc a y | _ => false)
  | .ite c a b, x => (match x with | .IfExp t y z _ => mE F C N sc c t && mE F C N sc a y && mE F C N sc b z | _ => false)
  | .call f es, x => (match x with | .Call (.Name y _) xs [] _ => decide (f = y) && F f && glB sc y && mEs F C N sc es xs | _ => false)
  | .bif f es, x => (match x with | .Call (.Name y _) xs [] _ => decide (bifN f = y) && bifB f && glB sc y && mEs F C N sc es xs | _ => false)
  | .isi a t, x => (match x with | .Call (.Name y _) [z, .Name u _] [] _ => decide (("isinstance" : Str) = y) && glB sc y && mE F C N sc a z && noStar z && tynB C t u && glB sc u | _ => false)
  | .lc g it c e vs, x => (match x with
    | .ListComp elt [⟨tg, iter, ifs, 0⟩] scope _ => mI F C N sc it tg iter && noSet iter && blkC N sc scope (vs.map fun v => (N.getD v "", v)) && mG (fun x => scope.names.lookup x == some .cell) N (relC scope sc) g tg && (gSl g).all (fun i => decide (i ∈ vs)) && mC F C N (relC scope sc) c ifs && mE F C N (relC scope sc) e elt && lcB elt
    | _ => false)
  | .rng _, _ => false
  | .enum _, _ => false
  | .zip _ _, _ => false
  | .fr a, x => !isPl a && mE F C N sc a x
def mEs (F C : Str → Bool) (N : List Str) (sc : Scope) : List DE → List Expr → Bool
  | [], [] => true
  | e :: es, x :: xs => mE F C N sc e x && noStar x && mEs F C N sc es xs
  | _, _ => false
def mO (F C : Str → Bool) (N : List Str) (sc : Scope) : Option DE → Option Expr → Bool
  | none, none => true
  | some e, some x => mE F C N sc e x
  | _, _ => false
def mC (F C : Str → Bool) (N : List Str) (sc : Scope) : Option DE → List Expr → Bool
  | none, [] => true
  | some e, [x] => mE F C N sc e x
  | _, _ => false
/-- what is gone through, with its target -/
def mI (F C : Str → Bool) (N : List Str) (sc : Scope) : DE → Expr → Expr → Bool
  | .rng es, _, x => (match x with | .Call (.Name y _) xs [] _ => decide (("range" : Str) = y) && glB sc y && mEs F C N sc es xs && (xs.length == 1 || xs.length == 2) | _ => false)
  | .enum a, tg, x => (match tg, x with | .Tuple _ _ _, .Call (.Name y _) [z] [] _ => decide (("enumerate" : Str) = y) && glB sc y && mE F C N sc a z && noStar z | _, _ => false)
  | .zip a b, tg, x => (match tg, x with | .Tuple _ _ _, .Call (.Name y _) [z, u] [] _ => decide (("zip" : Str) = y) && glB sc y && mE F C N sc a z && noStar z && mE F C N sc b u && noStar u | _, _ => false)
  | .var i, _, x => (match x with | .Name y _ => visB N sc i y | _ => false)
  | .lst es, _, x => (match x with | .List xs _ => mEs F C N sc es xs | _ => false)
  | .tup es, _, x => (match x with | .Tuple xs _ _ => mEs F C N sc es xs | _ => false)
  | .ix a b, _, x => (match x with | .Subscript y z _ => mE F C N sc a y && mE F C N sc b z && noSlice z | _ => false)
  | .sl a lo hi, _, x => (match x with | .Subscript y (.Slice l u none _) _ => mE F C N sc a y && mO F C N sc lo l && mO F C N sc hi u | _ => false)
  | .call f es, _, x => (match x with | .Call (.Name y _) xs [] _ => decide (f = y) && F f && glB sc y && mEs F C N sc es xs | _ => false)
  | .bif f es, _, x => (match x with | .Call (.Name y _) xs [] _ => decide (bifN f = y) && bifB f && glB sc y && mEs F C N sc es xs | _ => false)
  | .bin o a b, _, x => (match x with | .BinOp y op z _ => opB o op && mE F C N sc a y && mE F C N sc b z | _ => false)
  | .fr a, _, x => !isPl a && mE F C N sc a x
  | _, _, _ => false
end

theorem visB_ok {X : Cx} {i : Nat} {x : Str} (h : visB X.N X.env.scope i x = true) : X.N[i]? = some x ∧ Vis X.env.scope x ∧ (x == ("__debug__" : Str)) = false ∧ (x == ("__classdict__" : Str)) = false := by
  unfold visB at h
  simp only [Bool.and_eq_true, decide_eq_true_eq, Bool.not_eq_true'] at h
  obtain ⟨⟨⟨h1, h2⟩, h3⟩, h4⟩ := h
  refine ⟨h1, ?_, h3, h4⟩
  unfold Vis
  split at h2
  · rename_i e; exact .inl e
  · rename_i e; exact .inr (.inl e)
  · rename_i e; exact .inr (.inr e)
  · cases h2
theorem locB_ok {X : Cx} {fn : Str → Bool} (hf : ∀ x, fn x = true → X.fn x = true) {i : Nat} {x : Str} (h : locB fn X.N X.env.scope i x = true) : X.N[i]? = some x ∧ Loc X.env.scope x ∧ (X.fn x = true ∨ X.env.scope.names.lookup x = some .local) := by
  unfold locB at h
  simp only [Bool.and_eq_true, decide_eq_true_eq] at h
  refine ⟨h.1, ?_⟩
  have h2 := h.2
  split at h2
  · rename_i e; exact ⟨.inl e, .inr e⟩
  · rename_i e; exact ⟨.inr e, .inl (hf _ h2)⟩
  · cases h2
theorem glB_ok {X : Cx} {x : Str} (h : glB X.env.scope x = true) : Gl X x ∧ (x == ("__debug__" : Str)) = false ∧ x ≠ "__name__" := by
  unfold glB at h
  simp only [Bool.and_eq_true, Bool.not_eq_true'] at h
  obtain ⟨⟨h1, h2⟩, h3⟩ := h
  refine ⟨?_, h2, by simpa using h3⟩
  unfold Gl Env.kindOf
  split at h1
  · rename_i e; exact e
  · cases h1
theorem star_cons {e : Expr} (es : List Expr) (env : Env) (h : noStar e = true) : starEach (e :: es) env = (false, eval e env) :: starEach es env := by
  cases e <;> first | rfl | (simp [noStar] at h)
theorem mEs_star {F C : Str → Bool} {N : List Str} {sc : Scope} {env : Env} {pos : Pos} : ∀ {es : List DE} {xs : List Expr}, mEs F C N sc es xs = true → (backTo pos (starEach xs env)).any (·.1) = false
  | [], [], _ => rfl
  | [], _ :: _, h => by simp [mEs] at h
  | _ :: _, [], h => by simp [mEs] at h
  | e :: es, x :: xs, h => by
    simp only [mEs, Bool.and_eq_true] at h
    rw [star_cons xs env h.1.2]
    have ih := mEs_star (env := env) (pos := pos) h.2
    unfold backTo at ih ⊢
    rw [List.map_cons, List.any_cons, ih]
    rfl
theorem plainIx {z : Expr} (h : noSlice z = true) : PlainIx z := by
  cases z <;> first | (exact fun _ _ => rfl) | (simp [noSlice] at h)
theorem noMarks {z : Expr} (op : CmpOp) (h : noSet z = true) : behindInMarks op z = false := by
  cases z <;> first | rfl | (simp [noSet] at h)

/-! ### reading data for == -/
mutual
theorem RD.dp {L : Lk} {H : Hp} : ∀ {v d}, RD L H v d → okD d = true → Dp L.K H v (py d)
  | _, _, .non, _ => by rw [py]; exact .non
  | _, _, .bl b, _ => by rw [py]; exact .bl b
  | _, _, .int i, _ => by rw [py]; exact .int i
  | _, _, .str s, _ => by rw [py]; exact .str s
  | _, _, .tup h t, k => by
    rw [py]
    rw [okD] at k
    exact .tup h (RDs.dp t k)
  | _, _, .lst h t, k => by
    rw [py]
    rw [okD] at k
    exact .lst (SqL.of h) (RDs.dp t k)
  | _, _, .scr (ns := ns) h, _ => by
    rw [py]
    refine .lst h ?_
    clear h
    induction ns with
    | nil => exact .nil
    | cons n ns ih => exact .cons (.int n) (ih (by rw [okD]))
  | _, _, .dic _ _, k => by simp [okD] at k
  | _, _, .exc0 _ _, k => by simp [okD] at k
  | _, _, .excF _ _ _ _ _, k => by simp [okD] at k
theorem RDs.dp {L : Lk} {H : Hp} : ∀ {v d}, RDs L H v d → okDs d = true → DpAll L.K H v (pys d)
  | _, _, .nil, _ => by rw [pys]; exact .nil
  | _, _, .cons h t, k => by
    rw [pys]
    simp only [okDs, Bool.and_eq_true] at k
    exact .cons (RD.dp h k.1) (RDs.dp t k.2)
end
theorem ok_canLay : ∀ d : D, okD d = true → (py d).canLay0 = true := by
  have main : ∀ n : Nat, (∀ d : D, sizeOf d < n → okD d = true → (py d).canLay0 = true) ∧ (∀ ds : List D, sizeOf ds < n → okDs ds = true → PyData.canLayAll0 (pys ds) = true) := by
    intro n
    induction n with
    | zero => exact ⟨fun _ h => absurd h (Nat.not_lt_zero _), fun _ h => absurd h (Nat.not_lt_zero _)⟩
    | succ n ih =>
      refine ⟨fun d hn h => ?_, fun ds hn h => ?_⟩
      · cases d with
        | non => simp only [py, PyData.canLay0]
        | bl b => simp only [py, PyData.canLay0]
        | int i => simp only [py, PyData.canLay0]
        | str s => simp only [py, PyData.canLay0]; simpa [okD] using h
        | tup xs =>
          simp only [py, PyData.canLay0]
          rw [okD] at h
          exact ih.2 xs (by simp at hn; omega) h
        | lst xs =>
          simp only [py, PyData.canLay0]
          rw [okD] at h
          exact ih.2 xs (by simp at hn; omega) h
        | scr ns =>
          simp only [py, PyData.canLay0]
          clear h hn
          induction ns with
          | nil => simp only [List.map_nil, PyData.canLayAll0]
          | cons n ns ih => simp only [List.map_cons, PyData.canLayAll0, PyData.canLay0, ih, Bool.and_self]
        | dic _ => simp [okD] at h
        | exc _ _ => simp [okD] at h
      · cases ds with
        | nil => simp only [pys, PyData.canLayAll0]
        | cons d ds =>
          simp only [okDs, Bool.and_eq_true] at h
          simp only [pys, PyData.canLayAll0, Bool.and_eq_true]
          exact ⟨ih.1 d (by simp at hn; omega) h.1, ih.2 ds (by simp at hn; omega) h.2⟩
  exact fun d => (main (sizeOf d + 1)).1 d (Nat.lt_succ_self _)
theorem oks_canLay (ds : List D) (h : okDs ds = true) : PyData.canLayAll0 (pys ds) = true := by
  have := ok_canLay (.lst ds) (by rw [okD]; exact h)
  simpa only [py, PyData.canLay0] using this
theorem pys_map : ∀ ds : List D, pys ds = ds.map py
  | [] => rfl
  | d :: ds => by rw [pys, List.map_cons, pys_map ds]

section
variable {X : Cx}
/-- == and != of data -/
def rEqP (K : PySem.W.Frag) : R2 := fun x y H Q => ∃ a b : D, Dp K H x (py a) ∧ Dp K H y (py b) ∧ okD a = true ∧ okD b = true ∧ min (py a).depth (py b).depth ≤ 64 ∧ Q (.bl (PyData.eqv (py a) (py b))) H
def rNeP (K : PySem.W.Frag) : R2 := fun x y H Q => ∃ a b : D, Dp K H x (py a) ∧ Dp K H y (py b) ∧ okD a = true ∧ okD b = true ∧ min (py a).depth (py b).depth ≤ 64 ∧ Q (.bl (!PyData.eqv (py a) (py b))) H
theorem op_eqP (hu : X.A.units + 64 < cLine) : OpR X (compareOp .Eq) (rEqP X.K) := by
  intro pins s σ H x y v u Q I rx ry h
  obtain ⟨d, e, hd, he, sd, se, hm, q⟩ := h
  obtain ⟨as, r1⟩ := Dp.reads I _ x v hd rx
  obtain ⟨bs, r2⟩ := Dp.reads I _ y u he ry
  exact SeqAt.compareEq_reads r1 r2 (ok_canLay d sd) (ok_canLay e se) (by omega) ⟨.bl _, H, I, rfl, q⟩
theorem op_neP (hu : X.A.units + 64 < cLine) : OpR X (compareOp .NotEq) (rNeP X.K) := by
  intro pins s σ H x y v u Q I rx ry h
  obtain ⟨d, e, hd, he, sd, se, hm, q⟩ := h
  obtain ⟨as, r1⟩ := Dp.reads I _ x v hd rx
  obtain ⟨bs, r2⟩ := Dp.reads I _ y u he ry
  exact SeqAt.compareNe_reads r1 r2 (ok_canLay d sd) (ok_canLay e se) (by omega) ⟨.bl _, H, I, rfl, q⟩
/-- in, not in of data -/
def rInP (K : PySem.W.Frag) : R2 := fun x y H Q => ∃ (a : D) (ds : List D), Dp K H x (py a) ∧ (Dp K H y (.list (pys ds)) ∨ Dp K H y (.tuple (pys ds))) ∧ okD a = true ∧ okDs ds = true ∧ (py a).depth ≤ 64 ∧ Q (.bl (ds.any fun z => PyData.eqv (py z) (py a))) H
def rNotInP (K : PySem.W.Frag) : R2 := fun x y H Q => ∃ (a : D) (ds : List D), Dp K H x (py a) ∧ (Dp K H y (.list (pys ds)) ∨ Dp K H y (.tuple (pys ds))) ∧ okD a = true ∧ okDs ds = true ∧ (py a).depth ≤ 64 ∧ Q (.bl (!ds.any fun z => PyData.eqv (py z) (py a))) H
theorem any_py (ds : List D) (f : PyData → Bool) : (pys ds).any f = ds.any fun z => f (py z) := by
  rw [pys_map, List.any_map]
  rfl
theorem op_inP (hu : X.A.units + 65 < cLine) : OpR X (compareOp .In) (rInP X.K) := by
  intro pins s σ H x y v u Q I rx ry h
  obtain ⟨a, ds, hd, he, sd, se, hm, q⟩ := h
  obtain ⟨as, r1⟩ := Dp.reads I _ x v hd rx
  rcases he with he | he
  · obtain ⟨bs, r2⟩ := Dp.reads I _ y u he ry
    refine SeqAt.in_list_reads r2 r1 (oks_canLay ds se) (ok_canLay a sd) (by omega) ?_
    rw [any_py]
    exact ⟨.bl _, H, I, rfl, q⟩
  · obtain ⟨bs, r2⟩ := Dp.reads I _ y u he ry
    refine SeqAt.in_tuple_reads r2 r1 (oks_canLay ds se) (ok_canLay a sd) (by omega) ?_
    rw [any_py]
    exact ⟨.bl _, H, I, rfl, q⟩
theorem op_notInP (hu : X.A.units + 65 < cLine) : OpR X (compareOp .NotIn) (rNotInP X.K) := by
  intro pins s σ H x y v u Q I rx ry h
  obtain ⟨a, ds, hd, he, sd, se, hm, q⟩ := h
  obtain ⟨as, r1⟩ := Dp.reads I _ x v hd rx
  rcases he with he | he
  · obtain ⟨bs, r2⟩ := Dp.reads I _ y u he ry
    refine SeqAt.notIn_list_reads r2 r1 (oks_canLay ds se) (ok_canLay a sd) (by omega) ?_
    rw [any_py]
    exact ⟨.bl _, H, I, rfl, q⟩
  · obtain ⟨bs, r2⟩ := Dp.reads I _ y u he ry
    refine SeqAt.notIn_tuple_reads r2 r1 (oks_canLay ds se) (ok_canLay a sd) (by omega) ?_
    rw [any_py]
    exact ⟨.bl _, H, I, rfl, q⟩
/-- t * 1 is t -/
def rRep1 (K : PySem.W.Frag) : R2 := fun x y H Q => ∃ l xs, x = .ref l ∧ y = .int 1 ∧ SqT K H l xs ∧ Q (.ref l) H
theorem tuple_mul1 (l : Addr) (items : Array Value) (n : Nat) (dd : Option Addr) (sl : Array (Option Value)) (u : Tok) :
    Meets (Builtin.«tuple.__mul__» ⟨[.ref l, .int 1 u], []⟩) (fun _ R s => s.heap.get? l = some { cls := .type "tuple", dict := dd, data := .seq items n, slots := sl } ∧ R (.ok (.ret (Value.ref l))) s) :=
  .of_wp fun prog w A R s h => by
    obtain ⟨hp, g, d, tk, os⟩ := s
    obtain ⟨hl, h⟩ := h
    have f1 := AutoSeq1.idx_int
    have c0 : (decide ((1 : Int) < -(2 ^ 63)) || decide ((1 : Int) ≥ 2 ^ 63)) = false := by decide
    have c1 : (items.isEmpty || (1 : Int) == 1) = true := by simp
    wp_walk using wpAny_loadPart' hl
    repeat (first
      | (refine wpAny_ite_false (decide_eq_false (by rw [c0]; exact Bool.false_ne_true)) ?_; wp_walk using wpAny_loadPart' hl)
      | (refine wpAny_ite_true (decide_eq_true c1) ?_; wp_walk using wpAny_loadPart' hl))
    exact ⟨_, rfl, h⟩
theorem op_rep1 : OpR X (binaryOp .Mult) (rRep1 X.K) := by
  intro pins s σ H x y v u Q I rx ry h
  obtain ⟨l, xs, rfl, rfl, hT, q⟩ := h
  cases rx
  obtain ⟨t, rfl⟩ := ry
  obtain ⟨its, r, ⟨⟨cls, dd, data, sl⟩, ho, hc, n, hd⟩, hs⟩ := I.tuple hT
  simp only at hc hd
  subst hc hd
  exact wpAny_binaryOp_repeat_ref (T := "tuple") (U := "int") (by decide) ⟨_, ho, rfl⟩ (fun s' => typeIs_int s' 1 t) noFill_tuple_mul F.fills_int_mul F.slot_int_rmul repeat_tuple F.slot_int_index.lookup
    (call_meets F.slot_int_rmul (typeIs_int s 1 t) F.entry_int_rmul (F.args_int_rmul_2 _ _) (int_rmul_tuple 1 t l its.toArray n dd sl)
      ⟨ho, rfl, ⟨_, ho, rfl⟩, call_meets F.slot_tuple_mul ⟨_, ho, rfl⟩ F.entry_tuple_mul (F.args_tuple_mul_2 _ _) (tuple_mul1 l its.toArray n dd sl t) ⟨ho, ⟨.ref l, H, I, rfl, q⟩⟩⟩)
end
end DP

/-! Operators by values. -/
namespace DP
open PySem PySem.Spec PyProof.Rows L2
abbrev lk (X : Cx) : Lk := ⟨X.K, X.mg⟩

/-- an operation on two trees, as a reading by values -/
def rV (L : Lk) (f : T → T → R T) : R2 := fun x y H Q => ∃ (W : WX) (σ : L2.St) (G : Hp) (tx ty : T) (fx fy : List Addr) (pl : Bool), Same G H ∧ RT L G H x tx fx ∧ RT L G H y ty fy ∧ CnE L W σ false Q G H (f tx ty)
def rVb (L : Lk) (f : T → T → R Bool) : R2 := fun x y H Q => ∃ (G : Hp) (tx ty : T) (fx fy : List Addr) (b : Bool), Same G H ∧ RT L G H x tx fx ∧ RT L G H y ty fy ∧ f tx ty = .ok b ∧ Q (.bl b) H
section
variable {L : Lk} {G H : Hp}
theorem RT.fz_inv {v : V} {d : D} {fp : List Addr} (h : RT L G H v (.fz d) fp) : RD L G v d := by cases h; assumption
theorem RD.int_inv {v : V} {i : Int} (h : RD L G v (.int i)) : v = .int i := by cases h; rfl
theorem RD.bl_inv {v : V} {i : Bool} (h : RD L G v (.bl i)) : v = .bl i := by cases h; rfl
theorem RD.str_inv {v : V} {i : Str} (h : RD L G v (.str i)) : v = .str i := by cases h; rfl
theorem RD.non_inv {v : V} (h : RD L G v .non) : v = .non := by cases h; rfl
theorem RD.tup_inv {v : V} {ds : List D} (h : RD L G v (.tup ds)) : ∃ a xs, v = .ref a ∧ SqT L.K G a xs ∧ RDs L G xs ds := by cases h; exact ⟨_, _, rfl, by assumption, by assumption⟩
theorem RD.lst_inv {v : V} {ds : List D} (h : RD L G v (.lst ds)) : ∃ a xs, v = .ref a ∧ G a = some (.lst xs) ∧ RDs L G xs ds := by cases h; exact ⟨_, _, rfl, by assumption, by assumption⟩
theorem RD.scr_inv {v : V} {ns : List Int} (h : RD L G v (.scr ns)) : ∃ a, v = .ref a ∧ SqL L.K G a (ns.map V.int) := by cases h; exact ⟨_, rfl, by assumption⟩
theorem RD.dic_inv {v : V} {ds : List (Key × D)} (h : RD L G v (.dic ds)) : ∃ a xs, v = .ref a ∧ G a = some (.dK xs) ∧ RDk L G xs ds := by cases h; exact ⟨_, _, rfl, by assumption, by assumption⟩
theorem RT.lst_inv {v : V} {ts : List T} {fp : List Addr} (h : RT L G H v (.lst ts) fp) : ∃ a xs f, v = .ref a ∧ fp = a :: f ∧ H a = some (.lst xs) ∧ RTs L G H xs ts f := by cases h; exact ⟨_, _, _, rfl, rfl, by assumption, by assumption⟩
theorem RT.tup_inv {v : V} {ts : List T} {fp : List Addr} (h : RT L G H v (.tup ts) fp) : ∃ a xs f, v = .ref a ∧ fp = a :: f ∧ H a = some (.tup xs) ∧ RTs L G H xs ts f := by cases h; exact ⟨_, _, _, rfl, rfl, by assumption, by assumption⟩
theorem RT.dic_inv {v : V} {ts : List (Key × T)} {fp : List Addr} (h : RT L G H v (.dic ts) fp) : ∃ a xs f, v = .ref a ∧ fp = a :: f ∧ H a = some (.dK xs) ∧ RTk L G H xs ts f := by cases h; exact ⟨_, _, _, rfl, rfl, by assumption, by assumption⟩
/-- a list whose items are plain -/
theorem plain_read {v : V} {t : T} {fp : List Addr} {ds : List D} (s : Same G H) (h : RT L G H v t fp) (e : plainL t = some ds) : ∃ a xs, v = .ref a ∧ H a = some (.lst xs) ∧ RDs L G xs ds := by
  unfold plainL at e
  split at e
  · cases e
    obtain ⟨a, xs, e1, e2, e3⟩ := h.fz_inv.lst_inv
    exact ⟨a, xs, e1, s _ _ e2, e3⟩
  · obtain ⟨a, xs, f, e1, _, e2, e3⟩ := h.lst_inv
    exact ⟨a, xs, e1, e2, (e3.plain e).1⟩
  · cases e
theorem RDs.cut {vs : List V} {ds : List D} (h : RDs L G vs ds) (lo hi : Option Int) : RDs L G (cutV vs lo hi) (cutL ds lo hi) := by
  unfold cutV cutL
  rw [h.length]
  exact (h.drop _).take _
theorem cut_map {α β : Type} (f : α → β) (xs : List α) (lo hi : Option Int) : cutL (xs.map f) lo hi = (cutL xs lo hi).map f := by
  unfold cutL
  rw [List.length_map, List.map_take, List.map_drop]
theorem cutV_eq (xs : List V) (lo hi : Option Int) : cutV xs lo hi = cutL xs lo hi := rfl
theorem map_fz_int (ns : List Int) : (ns.map fun n => T.fz (.int n)) = (ns.map D.int).map T.fz := by rw [List.map_map]; rfl
end

section
variable {X : Cx}
theorem opBin (hu : X.A.units + 1 < cLine) {o : BinO} {op : Operator} (h : opB o op = true) : OpR X (binaryOp op) (rV (lk X) (dBin o)) := by
  cases o <;> cases op <;> first | (exact absurd h Bool.false_ne_true) | skip
  · -- add
    refine OpR.of (OpR.or (OpR.or (OpR.or op_add op_add_str) op_catA) op_cat) ?_
    rintro x y H Q ⟨W, σ, G, tx, ty, fx, fy, _, s, rx, ry, c⟩
    unfold dBin at c
    simp only at c
    split at c
    · rename_i i j
      cases rx.fz_inv.int_inv
      cases ry.fz_inv.int_inv
      exact .inl (.inl (.inl ⟨i, j, rfl, rfl, Cn.fz s c (.int _)⟩))
    · rename_i p q
      cases rx.fz_inv.str_inv
      cases ry.fz_inv.str_inv
      split at c
      · exact .inl (.inl (.inr ⟨p, q, rfl, rfl, by assumption, Cn.fz s c (.str _)⟩))
      · exact c.elim
    · obtain ⟨a, xs, rfl, ha, hx⟩ := rx.fz_inv.tup_inv
      obtain ⟨b, ys, rfl, hb, hy⟩ := ry.fz_inv.tup_inv
      split at c
      · rename_i hz
        refine .inl (.inr ⟨a, b, xs, ys, rfl, rfl, Same.seqT s ha, Same.seqT s hb, by rw [hx.length, hy.length]; exact hz, fun e => ?_, fun _ e => ?_, fun _ _ p hp => ?_⟩)
        · subst e
          cases hx
          exact Cn.fz s c (.tup hb hy)
        · subst e
          cases hy
          rw [List.append_nil] at c
          exact Cn.fz s c (.tup ha hx)
        · exact Cn.newFz s c hp (.tup (SqT.of upd_same) ((hx.append hy).mono (new_same s hp)))
      · exact c.elim
    · split at c
      · rename_i xs ys e1 e2
        split at c
        · rename_i hz
          obtain ⟨a, us, rfl, ha, hx⟩ := plain_read s rx e1
          obtain ⟨b, ws, rfl, hb, hy⟩ := plain_read s ry e2
          exact .inr ⟨a, b, us, ws, rfl, rfl, ha, hb, by rw [hx.length, hy.length]; exact hz, fun p hp => Cn.newL s c hp (hx.append hy)⟩
        · exact c.elim
      · exact c.elim
  · -- sub
    refine OpR.of op_sub ?_
    rintro x y H Q ⟨W, σ, G, tx, ty, fx, fy, _, s, rx, ry, c⟩
    unfold dBin at c
    simp only at c
    split at c
    · rename_i i j
      cases rx.fz_inv.int_inv
      cases ry.fz_inv.int_inv
      exact ⟨i, j, rfl, rfl, Cn.fz s c (.int _)⟩
    · exact c.elim
  · -- mul
    refine OpR.of (OpR.or (OpR.or (OpR.or op_mul op_rep1) op_repT) op_rep) ?_
    rintro x y H Q ⟨W, σ, G, tx, ty, fx, fy, _, s, rx, ry, c⟩
    unfold dBin at c
    simp only at c
    split at c
    · rename_i i j
      cases rx.fz_inv.int_inv
      cases ry.fz_inv.int_inv
      split at c
      · rename_i hz
        simp only [Bool.or_eq_true, decide_eq_true_eq] at hz
        exact .inl (.inl (.inl ⟨i, j, rfl, rfl, hz, Cn.fz s c (.int _)⟩))
      · exact c.elim
    · rename_i k
      obtain ⟨a, xs, rfl, ha, hx⟩ := rx.fz_inv.tup_inv
      cases ry.fz_inv.int_inv
      split at c
      · rename_i hk
        subst hk
        exact .inl (.inl (.inr ⟨a, xs, rfl, rfl, Same.seqT s ha, Cn.fz s c (.tup ha hx)⟩))
      · split at c
        · rename_i hz
          simp only [decide_eq_true_eq] at hz
          obtain ⟨h1, h2, h3, h4⟩ := hz
          refine .inl (.inr ⟨a, k, xs, rfl, rfl, Same.seqT s ha, fun e => h1 ?_, h2, h3, by rw [hx.length]; exact h4, fun p hp => ?_⟩)
          · subst e; cases hx; rfl
          · exact Cn.newFz s c hp (.tup (SqT.of upd_same) ((hx.rep _).mono (new_same s hp)))
        · exact c.elim
    · rename_i k _ _
      cases ry.fz_inv.int_inv
      split at c
      · rename_i xs e1
        split at c
        · rename_i hz
          simp only [decide_eq_true_eq] at hz
          obtain ⟨h1, h2, h3⟩ := hz
          obtain ⟨a, us, rfl, ha, hx⟩ := plain_read s rx e1
          exact .inr ⟨a, k, us, rfl, rfl, ha, h1, h2, by rw [hx.length]; exact h3, fun p hp => Cn.newL s c hp (hx.rep _)⟩
        · exact c.elim
      · exact c.elim
    · exact c.elim
  · -- fdiv
    refine OpR.of op_fdivN ?_
    rintro x y H Q ⟨W, σ, G, tx, ty, fx, fy, _, s, rx, ry, c⟩
    unfold dBin at c
    simp only at c
    split at c
    · rename_i i j
      cases rx.fz_inv.int_inv
      cases ry.fz_inv.int_inv
      split at c
      · rename_i hz
        simp only [decide_eq_true_eq] at hz
        exact ⟨i, j, rfl, rfl, hz, Cn.fz s c (.int _)⟩
      · exact c.elim
    · exact c.elim
  · -- mod
    refine OpR.of op_modN ?_
    rintro x y H Q ⟨W, σ, G, tx, ty, fx, fy, _, s, rx, ry, c⟩
    unfold dBin at c
    simp only at c
    split at c
    · rename_i i j
      cases rx.fz_inv.int_inv
      cases ry.fz_inv.int_inv
      split at c
      · rename_i hz
        simp only [decide_eq_true_eq] at hz
        exact ⟨i, j, rfl, rfl, hz, Cn.fz s c (.int _)⟩
      · exact c.elim
    · exact c.elim
  · -- pow
    refine OpR.of op_pow ?_
    rintro x y H Q ⟨W, σ, G, tx, ty, fx, fy, _, s, rx, ry, c⟩
    unfold dBin at c
    simp only at c
    split at c
    · rename_i i j
      cases rx.fz_inv.int_inv
      cases ry.fz_inv.int_inv
      split at c
      · rename_i hz
        simp only [decide_eq_true_eq] at hz
        exact ⟨i, j, rfl, rfl, hz, Cn.fz s c (.int _)⟩
      · exact c.elim
    · exact c.elim

/-- comparisons of two ints -/
theorem ordV {f : Int → Int → Bool} {op : CmpOp} (h : OpR X (compareOp op) (rI0 fun i j => .bl (f i j))) : OpR X (compareOp op) (rVb (lk X) (dOrd f)) := by
  refine OpR.of h ?_
  rintro x y H Q ⟨G, tx, ty, fx, fy, b, s, rx, ry, e, q⟩
  unfold dOrd at e
  split at e
  · rename_i i j
    cases rx.fz_inv.int_inv
    cases ry.fz_inv.int_inv
    cases e
    exact ⟨i, j, rfl, rfl, q⟩
  · cases e
theorem eqD_is {a b : D} {r : Bool} (h : eqD a b = .ok r) : okD a = true ∧ okD b = true ∧ min (py a).depth (py b).depth ≤ 64 ∧ r = PyData.eqv (py a) (py b) := by
  unfold eqD at h
  split at h
  · rename_i hc
    simp only [Bool.and_eq_true, decide_eq_true_eq] at hc
    cases h
    exact ⟨hc.1.1, hc.1.2, hc.2, rfl⟩
  · cases h
theorem R.map_is {α β : Type} {f : α → β} {r : R α} {b : β} (h : r.map f = .ok b) : ∃ a, r = .ok a ∧ f a = b := by
  obtain ⟨a, e1, e2⟩ := R.bind_is h
  cases e2
  exact ⟨a, e1, rfl⟩
end
end DP

/-! Comparisons, subscripts, slices, built-ins by values. -/
namespace DP
open PySem PySem.Spec PyProof.Rows L2
section
variable {L : Lk} {G H : Hp}
theorem RDk.val {k : Key} : ∀ {kvs : List (Key × V)} {ds : List (Key × D)}, RDk L H kvs ds → (match lookK k ds with | some d => ∃ v, valV kvs k = some v ∧ RD L H v d | none => valV kvs k = none)
  | _, _, .nil => rfl
  | _, _, .cons (k := j) (x := x) (xs := xs) (d := d) (ds := ds) h t => by
    have ih := RDk.val (k := k) t
    unfold lookK
    by_cases e : j = k
    · subst e
      rw [if_pos rfl]
      exact ⟨x, by simp [valV], h⟩
    · rw [if_neg e]
      have q : valV ((j, x) :: xs) k = valV xs k := by simp [valV, e]
      rw [q]
      exact ih
theorem RTk.val {k : Key} : ∀ {kvs : List (Key × V)} {ts : List (Key × T)} {fp : List Addr}, RTk L G H kvs ts fp → (match lookK k ts with | some t => ∃ v f, valV kvs k = some v ∧ RT L G H v t f ∧ f.Sublist fp | none => valV kvs k = none)
  | _, _, _, .nil => rfl
  | _, _, _, .cons (k := j) (x := x) (xs := xs) (f1 := f1) (f2 := f2) h t => by
    have ih := RTk.val (k := k) t
    unfold lookK
    by_cases e : j = k
    · subst e
      rw [if_pos rfl]
      exact ⟨x, f1, by simp [valV], h, List.sublist_append_left _ _⟩
    · rw [if_neg e]
      have q : valV ((j, x) :: xs) k = valV xs k := by simp [valV, e]
      rw [q]
      split at ih
      · obtain ⟨v, f, a, b, c⟩ := ih
        exact ⟨v, f, a, b, c.trans (List.sublist_append_right _ _)⟩
      · exact ih
theorem keyD_is {v : V} {d : D} {k : Key} (h : RD L H v d) (e : keyD d = some k) : v = kV k := by
  unfold keyD at e
  split at e
  · cases e; cases h; rfl
  · cases e; cases h; rfl
  · cases e
theorem RDk.length : ∀ {kvs : List (Key × V)} {ds : List (Key × D)}, RDk L H kvs ds → kvs.length = ds.length
  | _, _, .nil => rfl
  | _, _, .cons _ t => by rw [List.length_cons, List.length_cons, RDk.length t]
theorem RTk.length : ∀ {kvs : List (Key × V)} {ds : List (Key × T)} {fp : List Addr}, RTk L G H kvs ds fp → kvs.length = ds.length
  | _, _, _, .nil => rfl
  | _, _, _, .cons _ t => by rw [List.length_cons, List.length_cons, RTk.length t]
theorem lookK_isSome {α β : Type} (f : α → β) (k : Key) : ∀ l : List (Key × α), (lookK k (l.map fun p => (p.1, f p.2))).isSome = (lookK k l).isSome
  | [] => rfl
  | (j, v) :: r => by
    rw [List.map_cons]
    unfold lookK
    by_cases e : j = k
    · rw [if_pos e, if_pos e]; rfl
    · rw [if_neg e, if_neg e]; exact lookK_isSome f k r
theorem inD_is {x : D} {xs : List D} {r : Bool} (h : inD x xs = .ok r) : okD x = true ∧ okDs xs = true ∧ (py x).depth ≤ 64 ∧ r = xs.any fun y => PyData.eqv (py y) (py x) := by
  unfold inD at h
  split at h
  · rename_i hc
    simp only [Bool.and_eq_true, decide_eq_true_eq] at hc
    cases h
    exact ⟨hc.1.1, hc.1.2, hc.2, rfl⟩
  · cases h
end
section
variable {X : Cx}
def rInDict : R2 := fun x y H Q => ∃ a o, y = .ref a ∧ DGet H a x o ∧ Q (.bl o.isSome) H
def rNotInDict : R2 := fun x y H Q => ∃ a o, y = .ref a ∧ DGet H a x o ∧ Q (.bl (!o.isSome)) H
theorem op_inDict (hu : X.A.units + 1 < cLine) : OpR X (compareOp .In) rInDict := by
  intro pins s σ H x y v u Q I rx ry h
  obtain ⟨a, o, rfl, g, q⟩ := h
  cases ry
  exact d_in hu I g rx fun s3 I3 => ⟨.bl o.isSome, H, I3, rfl, q⟩
theorem op_notInDict (hu : X.A.units + 1 < cLine) : OpR X (compareOp .NotIn) rNotInDict := by
  intro pins s σ H x y v u Q I rx ry h
  obtain ⟨a, o, rfl, g, q⟩ := h
  cases ry
  exact d_notIn hu I g rx fun s3 I3 => ⟨.bl (!o.isSome), H, I3, rfl, q⟩
/-- the reading of in: which of the rules serves -/
theorem in_cases {x y : V} {H G : Hp} {tx ty : T} {fx fy : List Addr} {b : Bool} {Q : Bool → Prop} (s : Same G H) (rx : RT (lk X) G H x tx fx) (ry : RT (lk X) G H y ty fy) (e : dIn tx ty = .ok b) (q : Q b) :
    (∃ a ds, Dp X.K H x (py a) ∧ (Dp X.K H y (.list (pys ds)) ∨ Dp X.K H y (.tuple (pys ds))) ∧ okD a = true ∧ okDs ds = true ∧ (py a).depth ≤ 64 ∧ Q (ds.any fun z => PyData.eqv (py z) (py a))) ∨
    (∃ a o, y = .ref a ∧ DGet H a x o ∧ Q o.isSome) ∨ ∃ i j, x = .str i ∧ y = .str j ∧ Q (!(Builtin.Str.occurrences j i 0 j.length 1).isEmpty) := by
  unfold dIn at e
  split at e
  · rename_i dx
    have rx' := rx.fz_inv.mono s
    split at e
    · rename_i ds
      obtain ⟨h1, h2, h3, h4⟩ := inD_is e
      subst h4
      have ry' := (ry.fz_inv.mono s).dp (by rw [okD]; exact h2)
      rw [py] at ry'
      exact .inl ⟨dx, ds, rx'.dp h1, .inr ry', h1, h2, h3, q⟩
    · rename_i kvs
      split at e
      · rename_i k hk
        cases e
        obtain ⟨a, us, rfl, ha, hv⟩ := (ry.fz_inv.mono s).dic_inv
        have e1 := keyD_is rx' hk
        subst e1
        refine .inr (.inl ⟨a, _, rfl, DGet.k ha, ?_⟩)
        have := hv.val (k := k)
        split at this
        · rename_i d hd
          obtain ⟨v, h1, _⟩ := this
          rw [h1]
          rw [hd] at q
          exact q
        · rename_i hd
          rw [this]
          rw [hd] at q
          exact q
      · cases e
    · rename_i kvs
      split at e
      · rename_i k hk
        cases e
        obtain ⟨a, us, f, rfl, _, ha, hv⟩ := ry.dic_inv
        have e1 := keyD_is rx' hk
        subst e1
        refine .inr (.inl ⟨a, _, rfl, DGet.k ha, ?_⟩)
        have := hv.val (k := k)
        split at this
        · rename_i d hd
          obtain ⟨v, _, h1, _⟩ := this
          rw [h1]
          rw [hd] at q
          exact q
        · rename_i hd
          rw [this]
          rw [hd] at q
          exact q
      · cases e
    · rename_i z
      split at e
      · cases e
        exact .inr (.inr ⟨_, _, rx'.str_inv, ry.fz_inv.str_inv, q⟩)
      · cases e
    · rename_i ds
      obtain ⟨h1, h2, h3, h4⟩ := inD_is e
      subst h4
      have ry' := (ry.fz_inv.mono s).dp (by rw [okD]; exact h2)
      rw [py] at ry'
      exact .inl ⟨dx, ds, rx'.dp h1, .inl ry', h1, h2, h3, q⟩
    · rename_i ts
      obtain ⟨h1, h2, h3, h4⟩ := inD_is e
      subst h4
      have ry' := (RT.read s ry)
      rw [er] at ry'
      have ry' := ry'.dp (by rw [okD]; exact h2)
      rw [py] at ry'
      exact .inl ⟨dx, ers ts, rx'.dp h1, .inl ry', h1, h2, h3, q⟩
    · cases e
  · cases e
theorem is_non {L : Lk} {G H : Hp} {v : V} {t : T} {fp : List Addr} (h : RT L G H v t fp) : decide (v = .non) = isNon t := by
  cases h with
  | fz h => cases h <;> simp [isNon]
  | lst _ _ => simp [isNon]
  | tup _ _ => simp [isNon]
  | dic _ _ => simp [isNon]
theorem opCmp (hu : X.A.units + 65 < cLine) {o : CmpO} {op : CmpOp} (h : cmB o op = true) : OpR X (compareOp op) (rVb (lk X) (dCmp o)) := by
  cases o <;> cases op <;> first | (exact absurd h Bool.false_ne_true) | skip
  · refine OpR.of (op_eqP (by omega)) ?_
    rintro x y H Q ⟨G, tx, ty, fx, fy, b, s, rx, ry, e, q⟩
    obtain ⟨h1, h2, h3, h4⟩ := eqD_is e
    subst h4
    exact ⟨er tx, er ty, (RT.read s rx).dp h1, (RT.read s ry).dp h2, h1, h2, h3, q⟩
  · refine OpR.of (op_neP (by omega)) ?_
    rintro x y H Q ⟨G, tx, ty, fx, fy, b, s, rx, ry, e, q⟩
    obtain ⟨b', e', rfl⟩ := R.map_is e
    obtain ⟨h1, h2, h3, h4⟩ := eqD_is e'
    subst h4
    exact ⟨er tx, er ty, (RT.read s rx).dp h1, (RT.read s ry).dp h2, h1, h2, h3, q⟩
  · exact ordV op_lt
  · exact ordV op_le
  · exact ordV op_gt
  · exact ordV op_ge
  · refine OpR.of (OpR.or op_isN op_isBl) ?_
    rintro x y H Q ⟨G, tx, ty, fx, fy, b, s, rx, ry, e, q⟩
    simp only [dCmp, dIs] at e
    split at e
    · cases e
      refine .inl ⟨ry.fz_inv.non_inv, ?_⟩
      rw [is_non rx]
      exact q
    · split at e
      · cases e
        exact .inr ⟨_, _, rx.fz_inv.bl_inv, ry.fz_inv.bl_inv, q⟩
      · cases e
    · cases e
  · refine OpR.of (OpR.or op_notN op_notBl) ?_
    rintro x y H Q ⟨G, tx, ty, fx, fy, b, s, rx, ry, e, q⟩
    obtain ⟨b', e', rfl⟩ := R.map_is (show (dIs tx ty).map (!·) = .ok b from e)
    unfold dIs at e'
    split at e'
    · cases e'
      refine .inl ⟨ry.fz_inv.non_inv, ?_⟩
      rw [is_non rx]
      exact q
    · split at e'
      · cases e'
        exact .inr ⟨_, _, rx.fz_inv.bl_inv, ry.fz_inv.bl_inv, q⟩
      · cases e'
    · cases e'
  · refine OpR.of (OpR.or (OpR.or (op_inP hu) (op_inDict (by omega))) op_in_str) ?_
    rintro x y H Q ⟨G, tx, ty, fx, fy, b, s, rx, ry, e, q⟩
    rcases in_cases (Q := fun b => Q (.bl b) H) s rx ry e q with h | h | h
    · exact .inl (.inl h)
    · exact .inl (.inr h)
    · exact .inr h
  · refine OpR.of (OpR.or (OpR.or (op_notInP hu) (op_notInDict (by omega))) op_notIn_str) ?_
    rintro x y H Q ⟨G, tx, ty, fx, fy, b, s, rx, ry, e, q⟩
    obtain ⟨b', e', rfl⟩ := R.map_is e
    rcases in_cases (Q := fun b => Q (.bl (!b)) H) s rx ry e' q with h | h | h
    · exact .inl (.inl h)
    · exact .inl (.inr h)
    · exact .inr h

/-! ### subscripts -/
/-- what a subscript gives: its tree, its nodes those of the whole -/
theorem ix_list_get {xs : List V} {ts : List T} {L : Lk} {G H : Hp} {f : List Addr} {i : Int} {t : T} (h : RTs L G H xs ts f) (e : atI ts i = some t) : ∃ v g, atI xs i = some v ∧ RT L G H v t g ∧ g.Sublist f := by
  unfold atI at e ⊢
  rw [h.length]
  cases q : ixN ts.length i with
  | none => rw [q] at e; cases e
  | some j =>
    rw [q] at e
    obtain ⟨v, g, a, b, c⟩ := h.get (i := j) (t := t) e
    exact ⟨v, g, a, b, c⟩
theorem ix_data_get {xs : List V} {ds : List D} {L : Lk} {H : Hp} {i : Int} {d : D} (h : RDs L H xs ds) (e : atI ds i = some d) : ∃ v, atI xs i = some v ∧ RD L H v d := by
  unfold atI at e ⊢
  rw [h.length]
  cases q : ixN ds.length i with
  | none => rw [q] at e; cases e
  | some j =>
    rw [q] at e
    exact h.get (i := j) (d := d) e
theorem atI_map {α β : Type} (f : α → β) (xs : List α) (i : Int) : atI (xs.map f) i = (atI xs i).map f := by
  unfold atI
  rw [List.length_map]
  cases ixN xs.length i with
  | none => rfl
  | some j => simp
def isDic : T → Bool
  | .fz (.dic _) => true
  | .dic _ => true
  | _ => false
/-- the readings of a[b] for a list, a tuple, a text; for a dict -/
theorem ix_cases {x y : V} {G H : Hp} {tx ty r : T} {fx fy : List Addr} (s : Same G H) (rx : RT (lk X) G H x tx fx) (ry : RT (lk X) G H y ty fy) (e : dIx tx ty = .ok r) :
    ∃ v g, RT (lk X) G H v r g ∧ g.Sublist fx ∧ ((isDic tx = false ∧ ∀ Q : VK, Q v H → rIx X.K x y H Q) ∨ (isDic tx = true ∧ ∃ a, x = .ref a ∧ DGet H a y (some v))) := by
  unfold dIx at e
  split at e
  · rename_i i
    have ey := ry.fz_inv.int_inv
    subst ey
    split at e
    · obtain ⟨d, e1, e2⟩ := R.map_is e
      subst e2
      obtain ⟨a, us, rfl, ha, hu⟩ := rx.fz_inv.tup_inv
      obtain ⟨v, h1, h2⟩ := ix_data_get hu (R.of_is e1)
      exact ⟨v, [], .fz h2, List.nil_sublist _, .inl ⟨rfl, fun Q q => .inr (.inl ⟨a, us, i, v, rfl, rfl, Same.seqT s ha, h1, q⟩)⟩⟩
    · obtain ⟨d, e1, e2⟩ := R.map_is e
      subst e2
      obtain ⟨a, us, rfl, ha, hu⟩ := rx.fz_inv.lst_inv
      obtain ⟨v, h1, h2⟩ := ix_data_get hu (R.of_is e1)
      exact ⟨v, [], .fz h2, List.nil_sublist _, .inl ⟨rfl, fun Q q => .inl ⟨a, us, i, v, rfl, rfl, SqL.of (s _ _ ha), h1, q⟩⟩⟩
    · rename_i ns
      obtain ⟨n, e1, e2⟩ := R.map_is e
      subst e2
      obtain ⟨a, rfl, ha⟩ := rx.fz_inv.scr_inv
      refine ⟨.int n, [], .fz (.int n), List.nil_sublist _, .inl ⟨rfl, fun Q q => .inl ⟨a, _, i, _, rfl, rfl, Same.seq s ha, ?_, q⟩⟩⟩
      rw [atI_map, R.of_is e1]
      rfl
    · split at e
      · obtain ⟨d, e1, e2⟩ := R.map_is e
        subst e2
        have ex := rx.fz_inv.str_inv
        subst ex
        exact ⟨_, [], .fz (.str _), List.nil_sublist _, .inl ⟨rfl, fun Q q => .inr (.inr ⟨_, i, _, rfl, rfl, by assumption, R.of_is e1, q⟩)⟩⟩
      · cases e
    · obtain ⟨a, us, f, rfl, rfl, ha, hu⟩ := rx.lst_inv
      obtain ⟨v, g, h1, h2, h3⟩ := ix_list_get hu (R.of_is e)
      exact ⟨v, g, h2, h3.trans (List.sublist_cons_self _ _), .inl ⟨rfl, fun Q q => .inl ⟨a, us, i, v, rfl, rfl, SqL.of ha, h1, q⟩⟩⟩
    · obtain ⟨a, us, f, rfl, rfl, ha, hu⟩ := rx.tup_inv
      obtain ⟨v, g, h1, h2, h3⟩ := ix_list_get hu (R.of_is e)
      exact ⟨v, g, h2, h3.trans (List.sublist_cons_self _ _), .inl ⟨rfl, fun Q q => .inr (.inl ⟨a, us, i, v, rfl, rfl, SqT.of ha, h1, q⟩)⟩⟩
    · obtain ⟨d, e1, e2⟩ := R.map_is e
      subst e2
      obtain ⟨a, us, rfl, ha, hu⟩ := (rx.fz_inv).dic_inv
      have := hu.val (k := .inl i)
      rw [R.of_is e1] at this
      obtain ⟨v, h1, h2⟩ := this
      exact ⟨v, [], .fz h2, List.nil_sublist _, .inr ⟨rfl, a, rfl, by rw [← h1]; exact DGet.k (k := .inl i) (s _ _ ha)⟩⟩
    · obtain ⟨a, us, f, rfl, rfl, ha, hu⟩ := rx.dic_inv
      have := hu.val (k := .inl i)
      rw [R.of_is e] at this
      obtain ⟨v, g, h1, h2, h3⟩ := this
      exact ⟨v, g, h2, h3.trans (List.sublist_cons_self _ _), .inr ⟨rfl, a, rfl, by rw [← h1]; exact DGet.k (k := .inl i) ha⟩⟩
    · cases e
  · rename_i z
    have ey := ry.fz_inv.str_inv
    subst ey
    split at e
    · obtain ⟨d, e1, e2⟩ := R.map_is e
      subst e2
      obtain ⟨a, us, rfl, ha, hu⟩ := (rx.fz_inv).dic_inv
      have := hu.val (k := .inr z)
      rw [R.of_is e1] at this
      obtain ⟨v, h1, h2⟩ := this
      exact ⟨v, [], .fz h2, List.nil_sublist _, .inr ⟨rfl, a, rfl, by rw [← h1]; exact DGet.k (k := .inr z) (s _ _ ha)⟩⟩
    · obtain ⟨a, us, f, rfl, rfl, ha, hu⟩ := rx.dic_inv
      have := hu.val (k := .inr z)
      rw [R.of_is e] at this
      obtain ⟨v, g, h1, h2, h3⟩ := this
      exact ⟨v, g, h2, h3.trans (List.sublist_cons_self _ _), .inr ⟨rfl, a, rfl, by rw [← h1]; exact DGet.k (k := .inr z) ha⟩⟩
    · cases e
  · cases e
end
end DP

/-! Slices, built-ins, isinstance by values. -/
namespace DP
open PySem PySem.Spec PyProof.Rows L2
section
variable {X : Cx}
def rSlD (L : Lk) : V → Option Int → Option Int → Hp → VK → Prop := fun x lo hi H Q => ∃ (W : WX) (σ : L2.St) (G : Hp) (tx : T) (fx : List Addr), Same G H ∧ RT L G H x tx fx ∧ CnE L W σ false Q G H (dSl tx lo hi)
theorem SlR.of {r r' : V → Option Int → Option Int → Hp → VK → Prop} (h : SlR X r) (k : ∀ x lo hi H Q, r' x lo hi H Q → r x lo hi H Q) : SlR X r' := by
  intro pins s σ H x v vl vu lo hi sl Q I rx hs pl pu q
  exact h pins s σ H x v vl vu lo hi sl Q I rx hs pl pu (k _ _ _ _ _ q)
theorem cut_all {α : Type} (xs : List α) (lo hi : Option Int) (h : HT.sIx xs.length 0 lo = 0 ∧ HT.sIx xs.length xs.length hi = xs.length) : cutL xs lo hi = xs := by
  unfold cutL
  rw [h.1, h.2]
  simp
theorem slD : SlR X (rSlD (lk X)) := by
  refine SlR.of (SlR.or sl_tupA sl_list) ?_
  rintro x lo hi H Q ⟨W, σ, G, tx, fx, s, rx, c⟩
  unfold dSl at c
  split at c
  · rename_i ds
    obtain ⟨a, us, rfl, ha, hu⟩ := rx.fz_inv.tup_inv
    refine .inl ⟨a, us, rfl, Same.seqT s ha, fun hw => ?_, fun _ p hp => ?_⟩
    · rw [hu.length] at hw
      rw [cut_all ds lo hi hw] at c
      exact Cn.fz s c (.tup ha hu)
    · exact Cn.newFz s c hp (.tup (SqT.of upd_same) ((hu.cut lo hi).mono (new_same s hp)))
  · rename_i ns
    obtain ⟨a, rfl, ha⟩ := rx.fz_inv.scr_inv
    refine .inr ⟨a, _, rfl, Same.seq s ha, fun p hp => ?_⟩
    rw [map_fz_int] at c
    rw [cutV_eq, cut_map]
    exact Cn.newL s c hp RDs.ints
  · split at c
    · rename_i ds e
      obtain ⟨a, us, rfl, ha, hu⟩ := plain_read s rx e
      exact .inr ⟨a, us, rfl, SqL.of ha, fun p hp => Cn.newL s c hp (hu.cut lo hi)⟩
    · exact c.elim

/-! ### built-ins -/
def rBif (L : Lk) (f : Bif) : List V → Hp → VK → Prop := fun xs H Q => ∃ (W : WX) (σ : L2.St) (G : Hp) (ts : List T) (fs : List Addr), Same G H ∧ RTs L G H xs ts fs ∧ CnE L W σ false Q G H (dBif f ts)
theorem CallR.of {f : Value} {r r' : List V → Hp → VK → Prop} (h : CallR X f r) (k : ∀ xs H Q, r' xs H Q → r xs H Q) : CallR X f r' := by
  intro pins s σ H xs us Q I rs q
  exact h pins s σ H xs us Q I rs (k _ _ _ q)
theorem RTs.one {L : Lk} {G H : Hp} {xs : List V} {t : T} {f : List Addr} (h : RTs L G H xs [t] f) : ∃ x g, xs = [x] ∧ RT L G H x t g := by
  cases h with
  | cons a b => cases b; exact ⟨_, _, rfl, a⟩
theorem RTs.two {L : Lk} {G H : Hp} {xs : List V} {t u : T} {f : List Addr} (h : RTs L G H xs [t, u] f) : ∃ x y g k, xs = [x, y] ∧ RT L G H x t g ∧ RT L G H y u k := by
  cases h with
  | cons a b => cases b with
    | cons c d => cases d; exact ⟨_, _, _, _, rfl, a, c⟩
theorem bools_vals {L : Lk} {H : Hp} : ∀ {vs : List V} {ds : List D} {bs : List Bool}, RDs L H vs ds → bools ds = some bs → vs = bs.map V.bl
  | _, _, bs, .nil, e => by simp [bools] at e; subst e; rfl
  | _, _, bs, .cons (d := d) (ds := ds) h t, e => by
    cases h <;> try (simp [bools] at e)
    rename_i b
    obtain ⟨bs', e1, e2⟩ := e
    subst e2
    rw [bools_vals t e1]
    rfl
theorem bif_len : CallR X (.builtin "len") (rBif (lk X) .len) := by
  refine CallR.of (CallR.or (CallR.or call_len_seq call_len_str) call_lenD) ?_
  rintro xs H Q ⟨W, σ, G, ts, fs, s, rx, c⟩
  unfold dBif at c
  split at c <;> try (exact c.elim)
  all_goals (rename_i heq; first | (exact absurd heq (by decide)) | skip)
  rename_i t _
  obtain ⟨x, g, rfl, h⟩ := rx.one
  unfold dLen at c
  split at c
  · obtain ⟨a, us, rfl, ha, hu⟩ := h.fz_inv.tup_inv
    refine .inl (.inl ⟨a, us, rfl, .inr (Same.seqT s ha), ?_⟩)
    rw [hu.length]; exact Cn.fz s c (.int _)
  · obtain ⟨a, us, rfl, ha, hu⟩ := h.fz_inv.lst_inv
    refine .inl (.inl ⟨a, us, rfl, .inl (SqL.of (s _ _ ha)), ?_⟩)
    rw [hu.length]; exact Cn.fz s c (.int _)
  · obtain ⟨a, rfl, ha⟩ := h.fz_inv.scr_inv
    refine .inl (.inl ⟨a, _, rfl, .inl (Same.seq s ha), ?_⟩)
    rw [List.length_map]; exact Cn.fz s c (.int _)
  · have e := h.fz_inv.str_inv
    subst e
    split at c
    · exact .inl (.inr ⟨_, rfl, by assumption, Cn.fz s c (.int _)⟩)
    · exact c.elim
  · obtain ⟨a, us, rfl, ha, hu⟩ := h.fz_inv.dic_inv
    refine .inr ⟨a, us, rfl, s _ _ ha, ?_⟩
    rw [hu.length]; exact Cn.fz s c (.int _)
  · obtain ⟨a, us, f, rfl, _, ha, hu⟩ := h.lst_inv
    refine .inl (.inl ⟨a, us, rfl, .inl (SqL.of ha), ?_⟩)
    rw [hu.length]; exact Cn.fz s c (.int _)
  · obtain ⟨a, us, f, rfl, _, ha, hu⟩ := h.tup_inv
    refine .inl (.inl ⟨a, us, rfl, .inr (SqT.of ha), ?_⟩)
    rw [hu.length]; exact Cn.fz s c (.int _)
  · obtain ⟨a, us, f, rfl, _, ha, hu⟩ := h.dic_inv
    refine .inr ⟨a, us, rfl, ha, ?_⟩
    rw [hu.length]; exact Cn.fz s c (.int _)
  · exact c.elim
theorem bif_abs : CallR X (.builtin "abs") (rBif (lk X) .abs) := by
  refine CallR.of call_abs ?_
  rintro xs H Q ⟨W, σ, G, ts, fs, s, rx, c⟩
  unfold dBif at c
  split at c <;> try (exact c.elim)
  all_goals (rename_i heq; first | (exact absurd heq (by decide)) | skip)
  obtain ⟨x, g, rfl, h⟩ := rx.one
  have e := h.fz_inv.int_inv
  subst e
  exact ⟨_, rfl, Cn.fz s c (.int _)⟩
theorem bif_int : CallR X (.type "int") (rBif (lk X) .int) := by
  refine CallR.of call_int1 ?_
  rintro xs H Q ⟨W, σ, G, ts, fs, s, rx, c⟩
  unfold dBif at c
  split at c <;> try (exact c.elim)
  all_goals (rename_i heq; first | (exact absurd heq (by decide)) | skip)
  · obtain ⟨x, g, rfl, h⟩ := rx.one
    have e := h.fz_inv.int_inv
    subst e
    exact .inl ⟨_, rfl, Cn.fz s c (.int _)⟩
  · obtain ⟨x, g, rfl, h⟩ := rx.one
    have e := h.fz_inv.bl_inv
    subst e
    exact .inr ⟨_, rfl, Cn.fz s c (.int _)⟩
theorem bif_tuple : CallR X (.type "tuple") (rBif (lk X) .tuple) := by
  refine CallR.of call_tuple_of ?_
  rintro xs H Q ⟨W, σ, G, ts, fs, s, rx, c⟩
  unfold dBif at c
  split at c <;> try (exact c.elim)
  all_goals (first | (rename_i heq; exact absurd heq (by decide)) | skip)
  · obtain ⟨x, g, rfl, h⟩ := rx.one
    obtain ⟨a, us, rfl, ha, hu⟩ := h.fz_inv.tup_inv
    exact ⟨a, us, rfl, .inr ⟨Same.seqT s ha, Cn.fz s c (.tup ha hu)⟩⟩
  · split at c
    · rename_i ds e
      obtain ⟨x, g, rfl, h⟩ := rx.one
      obtain ⟨a, us, rfl, ha, hu⟩ := plain_read s h e
      exact ⟨a, us, rfl, .inl ⟨SqL.of ha, fun p hp => Cn.newFz s c hp (.tup (SqT.of upd_same) (hu.mono (new_same s hp)))⟩⟩
    · exact c.elim
theorem bif_list : CallR X (.type "list") (rBif (lk X) .list) := by
  refine CallR.of call_list_of ?_
  rintro xs H Q ⟨W, σ, G, ts, fs, s, rx, c⟩
  unfold dBif at c
  split at c <;> try (exact c.elim)
  all_goals (first | (rename_i heq; exact absurd heq (by decide)) | skip)
  · obtain ⟨x, g, rfl, h⟩ := rx.one
    obtain ⟨a, us, rfl, ha, hu⟩ := h.fz_inv.tup_inv
    exact ⟨a, us, rfl, .inr (Same.seqT s ha), fun p hp => Cn.newL s c hp hu⟩
  · split at c
    · rename_i ds e
      obtain ⟨x, g, rfl, h⟩ := rx.one
      obtain ⟨a, us, rfl, ha, hu⟩ := plain_read s h e
      exact ⟨a, us, rfl, .inl (SqL.of ha), fun p hp => Cn.newL s c hp hu⟩
    · exact c.elim
theorem bif_all (hc : X.calm = true) : CallR X (.builtin "all") (rBif (lk X) .all) := by
  refine CallR.of (cr_all hc) ?_
  rintro xs H Q ⟨W, σ, G, ts, fs, s, rx, c⟩
  unfold dBif at c
  split at c <;> try (exact c.elim)
  all_goals (first | (rename_i heq; exact absurd heq (by decide)) | skip)
  · split at c
    · rename_i bs e
      obtain ⟨x, g, rfl, h⟩ := rx.one
      obtain ⟨ds, e1, e2⟩ := Option.bind_eq_some_iff.mp e
      obtain ⟨a, us, rfl, ha, hu⟩ := plain_read s h e1
      have q := bools_vals hu e2
      subst q
      exact ⟨a, bs, rfl, SqL.of ha, Cn.fz s c (.bl _)⟩
    · exact c.elim
theorem bif_max (hc : X.calm = true) : CallR X (.builtin "max") (rBif (lk X) .max2) := by
  refine CallR.of (call_max2 hc) ?_
  rintro xs H Q ⟨W, σ, G, ts, fs, s, rx, c⟩
  unfold dBif at c
  split at c <;> try (exact c.elim)
  all_goals (first | (rename_i heq; exact absurd heq (by decide)) | skip)
  obtain ⟨x, y, g, k, rfl, h1, h2⟩ := rx.two
  have e1 := h1.fz_inv.int_inv
  have e2 := h2.fz_inv.int_inv
  subst e1 e2
  exact ⟨_, _, rfl, Cn.fz s c (.int _)⟩
theorem bif_min (hc : X.calm = true) : CallR X (.builtin "min") (rBif (lk X) .min2) := by
  refine CallR.of (call_min2 hc) ?_
  rintro xs H Q ⟨W, σ, G, ts, fs, s, rx, c⟩
  unfold dBif at c
  split at c <;> try (exact c.elim)
  all_goals (first | (rename_i heq; exact absurd heq (by decide)) | skip)
  obtain ⟨x, y, g, k, rfl, h1, h2⟩ := rx.two
  have e1 := h1.fz_inv.int_inv
  have e2 := h2.fz_inv.int_inv
  subst e1 e2
  exact ⟨_, _, rfl, Cn.fz s c (.int _)⟩
/-- the built-ins by name -/
inductive BVal : Str → Value → Prop
  | b (x : Str) (id : String) : bootBuiltins x = some (.builtin id) → BVal x (.builtin id)
  | t (x : Str) (id : String) : bootBuiltins x = some (.type id) → BVal x (.type id)
theorem bif_ok (hc : X.calm = true) (f : Bif) : (∃ id, bootBuiltins (bifN f) = some (.builtin id) ∧ CallR X (.builtin id) (rBif (lk X) f)) ∨ (∃ id, bootBuiltins (bifN f) = some (.type id) ∧ CallR X (.type id) (rBif (lk X) f)) ∨ ∀ ts, dBif f ts = .no := by
  cases f with
  | len => exact .inl ⟨_, by decide +kernel, bif_len⟩
  | abs => exact .inl ⟨_, by decide +kernel, bif_abs⟩
  | int => exact .inr (.inl ⟨_, by decide +kernel, bif_int⟩)
  | tuple => exact .inr (.inl ⟨_, by decide +kernel, bif_tuple⟩)
  | list => exact .inr (.inl ⟨_, by decide +kernel, bif_list⟩)
  | all => exact .inl ⟨_, by decide +kernel, bif_all hc⟩
  | sum => exact .inr (.inr fun ts => by unfold dBif; split <;> first | rfl | (rename_i h; exact absurd h (by decide)))
  | max2 => exact .inl ⟨_, by decide +kernel, bif_max hc⟩
  | min2 => exact .inl ⟨_, by decide +kernel, bif_min hc⟩
  | str => exact .inr (.inr fun ts => by unfold dBif; split <;> first | rfl | (rename_i h; exact absurd h (by decide)))

/-! ### isinstance -/
def tyN : TyN → String
  | .int => "int" | .bool => "bool" | .str => "str" | .list => "list" | .tuple => "tuple" | .dict => "dict" | .own _ => ""
def isB (d : D) (n : String) : Option Bool := match d with
  | .non => kitB "NoneType" n
  | .bl _ => kitB "bool" n
  | .int _ => kitB "int" n
  | .str _ => kitB "str" n
  | .tup _ => kitB "tuple" n
  | .lst _ => kitB "list" n
  | .scr _ => kitB "list" n
  | .dic _ => kitB "dict" n
  | .exc _ _ => none
theorem RD.tyx {H : Hp} {v : V} {d : D} (h : RD (lk X) H v d) (n : String) (r : Bool) (e : isB d n = some r) : ∃ t, TyX X.K H v (.type t) ∧ kitB t n = some r := by
  cases h with
  | non => exact ⟨_, .base .non, e⟩
  | bl b => exact ⟨_, .base (.bl b), e⟩
  | int i => exact ⟨_, .base (.int i), e⟩
  | str s => exact ⟨_, .base (.str s), e⟩
  | tup h t =>
    refine ⟨_, ?_, e⟩
    rcases h with (h | ⟨o, h⟩) | ⟨o, its, n, h1, h2, h3, _⟩
    · exact .base (.tup h)
    · exact .fTuple h
    · exact .kTuple h1 h2
  | lst h t => exact ⟨_, .base (.lst h), e⟩
  | scr h =>
    refine ⟨_, ?_, e⟩
    rcases h with (h | ⟨o, h⟩) | ⟨o, its, n, h1, h2, h3, _⟩
    · exact .base (.lst h)
    · exact .base (.frz h)
    · exact .kList h1 h2
  | dic h t => exact ⟨_, .base (.dK h), e⟩
  | exc0 _ _ => cases e
  | excF _ _ _ _ => cases e
theorem isB_ok {sub : Str → Str → Option Bool} {d : D} {t : TyN} {r : Bool} (h : dIsi sub d t = .ok r) (hn : ∀ c, t ≠ .own c) (hx : isExc d = false) : isB d (tyN t) = some r := by
  cases t with
  | own c => exact absurd rfl (hn c)
  | _ =>
    cases d <;> first
      | (exfalso; simp [isExc] at hx; done)
      | (simp only [dIsi] at h; cases h; simp only [isB, tyN]; decide +kernel)
end
end DP

/-! enumerate and zip over lists and tuples in any mix. -/
namespace DP
open PySem PySem.Spec PyProof.Rows L2
inductive Kd | l | t
def SqK (K : PySem.W.Frag) (H : Hp) (a : Addr) (xs : List V) : Kd → Prop
  | .l => SqL K H a xs
  | .t => SqT K H a xs
def ItAt (h : Heap) (it a : Addr) (i : Nat) : Kd → Prop
  | .l => h.IsListIter it a i
  | .t => h.IsTupleIter it a i
def HasK (h : Heap) (a : Addr) (its : Array Value) : Kd → Prop
  | .l => h.IsList a its
  | .t => h.IsTuple a its
def itO (a : Addr) : Kd → Obj
  | .l => { cls := .type "list_iterator", data := .fields #[.ref a, .int 0 0] }
  | .t => { cls := .type "tuple_iterator", data := .fields #[.ref a, .int 0 0] }
theorem drK (kd : Kd) {prog : Program} {w : World} {A : Around} (hh : A.handled = none) (it a : Addr) (hne : a ≠ it) (items : Array Value) :
    Draws prog w A it [it, a] items.size (fun i v => items[i]? = some v) (fun i h => ItAt h it a i kd ∧ HasK h a items kd) := by
  cases kd with
  | l => exact Draws.list hh it a hne items
  | t => exact Draws.tuple hh it a hne items
theorem begK (kd : Kd) (a : Addr) (items : Array Value) : Begins (.ref a) (itO a kd) fun h => HasK h a items kd := by
  cases kd with
  | l => exact begins_list a items
  | t => exact begins_tuple a items
theorem itAt_new {h : Heap} {it a : Addr} (kd : Kd) (e : h.get? it = some (itO a kd)) : ItAt h it a 0 kd := by
  cases kd with
  | l => exact ⟨_, e, rfl, rfl⟩
  | t => exact ⟨_, e, rfl, rfl⟩
theorem itAt_obj {h : Heap} {it a : Addr} {i : Nat} {kd : Kd} (e : ItAt h it a i kd) : ∃ o, h.get? it = some o ∧ ∀ v, o.data ≠ .cell v := by
  cases kd with
  | l => obtain ⟨o, ho, hc, hd⟩ := e; exact ⟨o, ho, fun v q => by rw [hd] at q; cases q⟩
  | t => obtain ⟨o, ho, hc, hd⟩ := e; exact ⟨o, ho, fun v q => by rw [hd] at q; cases q⟩
theorem itAt_at {h h' : Heap} {it a : Addr} {i : Nat} {kd : Kd} (e : ItAt h it a i kd) (k : ∀ o, h.get? it = some o → h'.get? it = some o) : ItAt h' it a i kd := by
  cases kd with
  | l => obtain ⟨o, ho, r⟩ := e; exact ⟨o, k o ho, r⟩
  | t => obtain ⟨o, ho, r⟩ := e; exact ⟨o, k o ho, r⟩
theorem hasK_lt {h : Heap} {a : Addr} {its : Array Value} {kd : Kd} (e : HasK h a its kd) : a < h.objs.size := by
  cases kd with
  | l => obtain ⟨o, ho, _⟩ := e; exact Heap.lt_size ho
  | t => obtain ⟨o, ho, _⟩ := e; exact Heap.lt_size ho
section
variable {X : Cx} {pins : List (Addr × Obj)} {σ : L2.St} {H : Hp} {s : Shared} {a : Addr} {xs ys : List V} {kd : Kd}
theorem sqK (I : Inv X pins σ H s) (h : SqK X.K H a xs kd) : ∃ its : List Value, Vals xs its ∧ HasK s.heap a its.toArray kd := by
  cases kd with
  | l => obtain ⟨its, r, p, _⟩ := I.list h; exact ⟨its, r, p.isList⟩
  | t => obtain ⟨its, r, p, _⟩ := I.tuple h; exact ⟨its, r, p⟩
theorem sqK_inj (I : Inv X pins σ H s) (h : SqK X.K H a xs kd) (h' : SqK X.K H a ys kd) : xs = ys := by
  cases kd with
  | l => exact I.list_inj h h'
  | t => exact I.tuple_inj h h'
end
/-- at each turn an item of the thing at a, in a new pair with its number -/
def IteK (K : PySem.W.Frag) (a : Addr) (kd : Kd) : It :=
  ⟨fun i H => ∃ (xs : List V) (x : V), SqK K H a xs kd ∧ xs[i]? = some x, fun i H v H' => ∃ T x, v = .ref T ∧ H T = none ∧ H' = upd H T (.tup [.int (i : Nat), x]) ∧ ∀ xs, SqK K H a xs kd → xs[i]? = some x, fun i H => ∃ xs : List V, SqK K H a xs kd ∧ xs.length = i⟩
theorem turn_enumK {P : Program} {w : World} {K : PySem.W.Frag} {elts : List Expr} {kk : Nat} {tpos : Pos} (kd : Kd) (a e it : Addr) :
    Turn P w K (.Tuple elts kk tpos) (IteK K a kd) [e, it] e (fun i h => (∃ old, IsEnum h e it ((i : Nat) : Int) old) ∧ ItAt h it a i kd ∧ e ≠ it) where
  mem := by simp
  obj := fun i h st b hb => by
    obtain ⟨⟨old, he⟩, hi, _⟩ := st
    have e' : b = e ∨ b = it := by simpa using hb
    rcases e' with z | z
    · rw [z]; exact ⟨_, he, fun v q => nomatch q⟩
    · rw [z]; exact itAt_obj hi
  keep := fun i h h' st k => let ⟨⟨old, he⟩, hi, hne⟩ := st; ⟨⟨old, k e (by simp) _ he⟩, itAt_at hi fun o q => k it (by simp) o q, hne⟩
  item := by
    intro X hP hw hK hc i pins s σ H E I hf st hg
    subst hP hw hK
    obtain ⟨⟨old, he⟩, hit, hne⟩ := st
    obtain ⟨xs, x, hq, hx⟩ := hg
    obtain ⟨its, rv, p⟩ := sqK I hq
    obtain ⟨u, hu, ru⟩ := rv.get hx
    have hlt : i < its.length := (List.getElem?_eq_some_iff.mp hu).1
    have hel : e < s.heap.objs.size := Heap.lt_size he
    have hil : it < s.heap.objs.size := by obtain ⟨_, q, _⟩ := itAt_obj hit; exact Heap.lt_size q
    have hoa : ∃ o, s.heap.get? a = some o ∧ (o.cls = .type "list" ∨ o.cls = .type "tuple") := by
      cases kd with
      | l => obtain ⟨o, ho, hc, _⟩ := p; exact ⟨o, ho, .inl hc⟩
      | t => obtain ⟨o, ho, hc, _⟩ := p; exact ⟨o, ho, .inr hc⟩
    have hai : a ≠ it := fun z => by
      obtain ⟨o, ho, hc⟩ := hoa
      rw [z] at ho
      cases kd with
      | l => obtain ⟨o', ho', hc', _⟩ := hit; rw [ho] at ho'; cases ho'; rw [hc'] at hc; revert hc; decide
      | t => obtain ⟨o', ho', hc', _⟩ := hit; rw [ho] at ho'; cases ho'; rw [hc'] at hc; revert hc; decide
    have hae : a ≠ e := fun z => by
      obtain ⟨o, ho, hc⟩ := hoa
      rw [z, he] at ho
      cases ho
      rcases hc with hc | hc <;> simp at hc
    refine wpAny_pyNext_enum_itemD (drK kd (A := X.A.in1) (I.ok.hd hc) it a hai its.toArray) he ⟨hit, p⟩ (by simpa using hlt) hne (by simp [hne, Ne.symm hae]) fun v h' tk hv ho hit' hT hsz hk => ?_
    have ev : u = v := by
      have e1 : its.toArray[i]? = some u := by simpa using hu
      exact Option.some.inj (e1.symm.trans hv)
    subst ev
    refine ⟨_, rfl, wpAny_letOwnedTupleGo_enum (s := { s with heap := h', toks := tk + 1 }) ho fun h'' he' sb => ?_⟩
    have hT2 : h''.get? s.heap.objs.size = some { cls := .type "tuple", data := .seq #[.int i tk, u] } := (sb.2 _ (Nat.ne_of_gt hel)).trans hT
    have new : ObjOk X.prog X.w (upd H s.heap.objs.size (.tup [.int (i : Nat), x])) h'' s.heap.objs.size (.tup [.int (i : Nat), x]) :=
      ⟨by show 2 ≤ sizeLine; decide, [.int i tk, u], .cons ⟨_, rfl⟩ (.cons ru .nil), ⟨_, hT2, rfl, _, rfl⟩⟩
    have I1 : Inv X pins σ (upd H s.heap.objs.size (.tup [.int (i : Nat), x])) { s with heap := h'', toks := tk + 1 } :=
      I.turnedNew (ch := [e, it]) (fun b ob hb q => (sb.2 b (fun z => hb (by simp [z]))).trans (hk b ob (fun z => hb (by simp [z])) (fun z => hb (by simp [z])) q)) hf (Nat.le_refl _) new
    refine ⟨.ref s.heap.objs.size, _, I1, rfl, ⟨_, x, rfl, I.hok.fresh (Nat.le_refl _), rfl, fun ys hy => by rw [sqK_inj I hy hq]; exact hx⟩, ⟨⟨u, ?_⟩, itAt_at hit'.1 fun o q => (sb.2 it (Ne.symm hne)).trans q, hne⟩, fun b hb => ?_⟩
    · have e1 : ((i + 1 : Nat) : Int) = (i : Int) + 1 := by omega
      rw [e1]; exact he'
    · have hb' : b < s.heap.objs.size := by
        have e' : b = e ∨ b = it := by simpa using hb
        rcases e' with z | z
        · rw [z]; exact hel
        · rw [z]; exact hil
      rw [upd_ne (Nat.ne_of_lt hb')]
      exact (hf b hb).1
  done := by
    intro X hP hw hK hc i pins s σ H E I hf st hg
    subst hP hw hK
    obtain ⟨⟨old, he⟩, hit, hne⟩ := st
    obtain ⟨xs, hq, hx⟩ := hg
    obtain ⟨its, rv, p⟩ := sqK I hq
    obtain ⟨f0, f1, f2, f3, f4, f5⟩ := hf it (by simp)
    have hl := rv.length
    have hai : a ≠ it := fun z => by
      cases kd with
      | l => obtain ⟨o, ho, hc, _⟩ := p; obtain ⟨o', ho', hc', _⟩ := hit; rw [z, ho'] at ho; cases ho; rw [hc'] at hc; revert hc; decide
      | t => obtain ⟨o, ho, hc, _⟩ := p; obtain ⟨o', ho', hc', _⟩ := hit; rw [z, ho'] at ho; cases ho; rw [hc'] at hc; revert hc; decide
    have en : its.toArray.size = i := by rw [List.size_toArray, ← hl, hx]
    refine wpAny_pyNext_enum_endD (drK kd (A := X.A.in1) (I.ok.hd hc) it a hai its.toArray) he ?_ fun h' eb => ⟨rfl, I.turned (t' := s.toks) (fun b o hb q => eb b o hb q) f0 f1 f3 f4 f5⟩
    rw [en]
    exact ⟨hit, p⟩
  self := fun A i s Q E st h => let ⟨⟨_, he⟩, _⟩ := st; wpAny_pyIter_enum he h
set_option maxHeartbeats 1000000 in
theorem meets_enumerate_new1 {v : Value} {o : Obj} {H : Heap → Prop} (B : Begins v o H) :
    Meets (Builtin.«enumerate.__new__» ⟨[.type "enumerate", v], []⟩) (fun _ R s => H s.heap ∧
      R (.ok (.ret (.ref (s.heap.push o).objs.size))) { s with heap := (s.heap.push o).push { cls := .type "enumerate", data := .fields #[.none, .bool false, .ref s.heap.objs.size, rawInt 0, .none, .none] } }) :=
  .of_wp fun prog w A R s h => by
    obtain ⟨hp, g, d, tk, os⟩ := s; obtain ⟨h1, h⟩ := h
    have hsub := sub_enumerate
    have q1 : ∀ {A' : Around} {E : Value → Shared → Prop} {Q : Value → Shared → Prop}, Q (.ref hp.objs.size) ⟨hp.push o, g, d, tk, os⟩ → wpAny (model prog w) A' (pyIter v) Q E ⟨hp, g, d, tk, os⟩ :=
      fun q => B.iter prog w _ _ ⟨hp, g, d, tk, os⟩ _ h1 q
    wp_walk using q1
    refine wpAny_stack_any fun st => wpAny_pure ?_
    split
    · rename_i c _ _ _ _ _
      cases (c == Value.type "enumerate")
      · wp_walk using q1
        exact ⟨_, rfl, h⟩
      · wp_walk using q1
        exact ⟨_, rfl, h⟩
    · wp_walk using q1
      exact ⟨_, rfl, h⟩
theorem enum_begins1 {prog : Program} {w : World} {A : Around} {E : Value → Shared → Prop} {s : Shared} {v : Value} {o : Obj} {H : Heap → Prop} {Q : Value → Shared → Prop} (B : Begins v o H) (h1 : H s.heap)
    (h : ∀ h', IsEnum h' (s.heap.objs.size + 1) s.heap.objs.size 0 .none → h'.get? s.heap.objs.size = some o → h'.objs.size = s.heap.objs.size + 2 →
      (∀ b o, s.heap.get? b = some o → h'.get? b = some o) → Q (.ref (s.heap.objs.size + 1)) { s with heap := h' }) :
    wpAny (model prog w) A (call (.type "enumerate") [v]) Q E s := by
  refine callType_new F.called_enumerate (by decide) (F.typeCall_enumerate_1 _) (F.newCall_enumerate_1 _) (fun obj => F.args_object_init_2 obj _) F.entry_enumerate_new
    (meets_enumerate_new1 B) ⟨h1, ?_⟩
  have hz : (s.heap.push o).objs.size = s.heap.objs.size + 1 := Heap.size_push ..
  show _ ∧ _
  rw [hz]
  have he : IsEnum ((s.heap.push o).push { cls := .type "enumerate", data := .fields #[.none, .bool false, .ref s.heap.objs.size, rawInt 0, .none, .none] }) (s.heap.objs.size + 1) s.heap.objs.size 0 .none := by
    have := Heap.get?_push_size (s.heap.push o) (o := { cls := .type "enumerate", data := .fields #[.none, .bool false, .ref s.heap.objs.size, rawInt 0, .none, .none] }) rfl
    rw [hz] at this; exact this
  refine ⟨⟨_, he, rfl⟩, h _ he (Heap.get?_push_of_some _ (Heap.get?_push_size _ B.free)) (by rw [Heap.size_push, hz]) fun b o x => Heap.get?_push_of_some _ (Heap.get?_push_of_some _ x)⟩
def iEnumK (K : PySem.W.Frag) (ta : TA) : TI := fun σ H R => ta σ H fun vs H1 => ∃ a xs kd, vs = [.ref a] ∧ SqK K H1 a xs kd ∧ R (IteK K a kd) H1
theorem pi_enumK {X : Cx} {e : Expr} {ta : TA} {p pos tpos : Pos} {elts : List Expr} {kk : Nat} (hg : Gl X "enumerate") (hm : X.mg "enumerate" = none) (ha : PA X [e] ta) (hs : starEach [e] X.env = [(false, eval e X.env)]) :
    PI X (.Tuple elts kk tpos) (.Call (.Name "enumerate" p) [e] [] pos) (iEnumK X.K ta) := by
  refine ⟨fun pins s σ H R I h => ?_⟩
  refine Call_ (ld_blt I hg hm boot_enumerate (PyProof.Rows.callWith_type1 (thn (ha.run pos pins s σ H _ I h) fun us s1 ⟨vs, H1, I1, r1, q1⟩ => ?_) hs rfl))
  obtain ⟨a, xs, kd, ex, hq, q⟩ := q1
  subst ex
  cases r1 with
  | cons r rr =>
    cases rr
    cases r
    obtain ⟨its, rv, p'⟩ := sqK I1 hq
    refine enum_begins1 (begK kd a its.toArray) p' fun h' he hit hsz hk => wpAny_pyIter_enum he ?_
    have I2 : Inv X pins σ H1 { s1 with heap := h' } := I1.kept (t' := s1.toks) hk
    refine ⟨s1.heap.objs.size + 1, [s1.heap.objs.size + 1, s1.heap.objs.size], _, _, H1, rfl, I2, turn_enumK kd a (s1.heap.objs.size + 1) s1.heap.objs.size, ⟨⟨.none, he⟩, itAt_new kd hit, Nat.succ_ne_self _⟩, fun b hb => ?_, q⟩
    have e' : b = s1.heap.objs.size + 1 ∨ b = s1.heap.objs.size := by simpa using hb
    have hle : s1.heap.objs.size ≤ b := by
      rcases e' with z | z
      · rw [z]; exact Nat.le_add_right _ _
      · rw [z]; exact Nat.le_refl _
    exact I1.fpOk hle (I1.hok.fresh hle)

/-- zip of two such -/
def ItzK (K : PySem.W.Frag) (a b : Addr) (k1 k2 : Kd) : It :=
  ⟨fun i H => ∃ (xs ys : List V) (x y : V), SqK K H a xs k1 ∧ SqK K H b ys k2 ∧ xs[i]? = some x ∧ ys[i]? = some y,
    fun i H v H' => ∃ T x y, v = .ref T ∧ H T = none ∧ H' = upd H T (.tup [x, y]) ∧ (∀ xs, SqK K H a xs k1 → xs[i]? = some x) ∧ ∀ ys, SqK K H b ys k2 → ys[i]? = some y,
    fun i H => ∃ xs ys : List V, SqK K H a xs k1 ∧ SqK K H b ys k2 ∧ i = min xs.length ys.length⟩
structure Apart (z TI TO i1 i2 a b : Addr) : Prop where
  s : ZipSep2 z TI TO i1 i2 [i1, a] [i2, b]
  a1 : a ≠ i1
  b2 : b ≠ i2
theorem turn_zipK {P : Program} {w : World} {K : PySem.W.Frag} {elts : List Expr} {kk : Nat} {tpos : Pos} (k1 k2 : Kd) {a b z TI TO i1 i2 : Addr} (D : Apart z TI TO i1 i2 a b) :
    Turn P w K (.Tuple elts kk tpos) (ItzK K a b k1 k2) [z, TI, TO, i1, i2] z (fun i h => IsZip h z TI TO .none ∧ IsTupOf2 h TI (.ref i1) (.ref i2) ∧ (∃ x y, IsTupOf2 h TO x y) ∧ ItAt h i1 a i k1 ∧ ItAt h i2 b i k2) where
  mem := by simp
  obj := fun i h st c hc => by
    obtain ⟨hz, hTI, ⟨x, y, hTO⟩, h1, h2⟩ := st
    have e' : c = z ∨ c = TI ∨ c = TO ∨ c = i1 ∨ c = i2 := by simpa using hc
    rcases e' with q | q | q | q | q
    · rw [q]; exact ⟨_, hz, fun v q => nomatch q⟩
    · rw [q]; exact ⟨_, hTI, fun v q => nomatch q⟩
    · rw [q]; exact ⟨_, hTO, fun v q => nomatch q⟩
    · rw [q]; exact itAt_obj h1
    · rw [q]; exact itAt_obj h2
  keep := fun i h h' st k => by
    obtain ⟨hz, hTI, ⟨x, y, hTO⟩, h1, h2⟩ := st
    exact ⟨k z (by simp) _ hz, k TI (by simp) _ hTI, ⟨x, y, k TO (by simp) _ hTO⟩, itAt_at h1 fun o q => k i1 (by simp) o q, itAt_at h2 fun o q => k i2 (by simp) o q⟩
  item := by
    intro X hP hw hK hc i pins s σ H E I hf st hg
    subst hP hw hK
    obtain ⟨hz, hTI, ⟨x0, y0, hTO⟩, h1, h2⟩ := st
    obtain ⟨xs, ys, x, y, hqx, hqy, hx, hy⟩ := hg
    obtain ⟨its, rv, p⟩ := sqK I hqx
    obtain ⟨its2, rv2, p2⟩ := sqK I hqy
    obtain ⟨u, hu, ru⟩ := rv.get hx
    obtain ⟨u2, hu2, ru2⟩ := rv2.get hy
    have hlt1 : i < its.length := (List.getElem?_eq_some_iff.mp hu).1
    have hlt2 : i < its2.length := (List.getElem?_eq_some_iff.mp hu2).1
    have hzl : z < s.heap.objs.size := Heap.lt_size hz
    refine wpAny_pyNext_zipD2_item D.s (drK k1 (A := X.A.in1) (I.ok.hd hc) i1 a D.a1 its.toArray) (drK k2 (A := X.A.in1) (I.ok.hd hc) i2 b D.b2 its2.toArray) hz hTI hTO ⟨h1, p⟩ ⟨h2, p2⟩ (by simpa using hlt1) (by simpa using hlt2) fun v1 v2 h' tk hv1 hv2 z' TO' h1' h2' hT hsz hk => ?_
    have ev1 : u = v1 := by
      have e1 : its.toArray[i]? = some u := by simpa using hu
      exact Option.some.inj (e1.symm.trans hv1)
    have ev2 : u2 = v2 := by
      have e1 : its2.toArray[i]? = some u2 := by simpa using hu2
      exact Option.some.inj (e1.symm.trans hv2)
    subst ev1 ev2
    refine ⟨_, rfl, wpAny_letOwnedTupleGo_zip (s := { s with heap := h', toks := tk }) z' fun h'' z'' sb => ?_⟩
    have hT2 : h''.get? s.heap.objs.size = some { cls := .type "tuple", data := .seq #[u, u2] } := (sb.2 _ (Nat.ne_of_gt hzl)).trans hT
    have new : ObjOk X.prog X.w (upd H s.heap.objs.size (.tup [x, y])) h'' s.heap.objs.size (.tup [x, y]) :=
      ⟨by show 2 ≤ sizeLine; decide, [u, u2], .cons ru (.cons ru2 .nil), ⟨_, hT2, rfl, _, rfl⟩⟩
    have I1 : Inv X pins σ (upd H s.heap.objs.size (.tup [x, y])) { s with heap := h'', toks := tk } :=
      I.turnedNew (t' := tk) (ch := [z, TI, TO, i1, i2]) (fun c o hb q => (sb.2 c (fun q' => hb (by simp [q']))).trans (hk c o (fun q' => hb (by simp [q'])) (fun q' => hb (by simp [q'])) (fun q' => hb (by simp [q'])) (fun q' => hb (by simp [q'])) q)) hf (Nat.le_refl _) new
    refine ⟨.ref s.heap.objs.size, _, I1, rfl, ⟨_, x, y, rfl, I.hok.fresh (Nat.le_refl _), rfl, fun l hl => by rw [sqK_inj I hl hqx]; exact hx, fun l hl => by rw [sqK_inj I hl hqy]; exact hy⟩, ⟨z'', ?_, ⟨u, u2, ?_⟩, ?_, ?_⟩, fun c hcm => ?_⟩
    · exact (sb.2 _ D.s.TIz).trans (hk _ _ D.s.TIz D.s.TITO D.s.TIi1 D.s.TIi2 hTI)
    · exact (sb.2 _ D.s.TOz).trans TO'
    · exact itAt_at h1'.1 fun o q => (sb.2 _ (Ne.symm D.s.zi1)).trans q
    · exact itAt_at h2'.1 fun o q => (sb.2 _ (Ne.symm D.s.zi2)).trans q
    · have hlt : c < s.heap.objs.size := by
        have e' : c = z ∨ c = TI ∨ c = TO ∨ c = i1 ∨ c = i2 := by simpa using hcm
        rcases e' with q | q | q | q | q
        · rw [q]; exact hzl
        · rw [q]; exact Heap.lt_size hTI
        · rw [q]; exact Heap.lt_size hTO
        · rw [q]; obtain ⟨_, e1, _⟩ := itAt_obj h1; exact Heap.lt_size e1
        · rw [q]; obtain ⟨_, e2, _⟩ := itAt_obj h2; exact Heap.lt_size e2
      rw [upd_ne (Nat.ne_of_lt hlt)]
      exact (hf c hcm).1
  done := by
    intro X hP hw hK hc i pins s σ H E I hf st hg
    subst hP hw hK
    obtain ⟨hz, hTI, ⟨x0, y0, hTO⟩, h1, h2⟩ := st
    obtain ⟨xs, ys, hqx, hqy, hend⟩ := hg
    obtain ⟨its, rv, p⟩ := sqK I hqx
    obtain ⟨its2, rv2, p2⟩ := sqK I hqy
    have l1 := rv.length
    have l2 := rv2.length
    exact wpAny_pyNext_zipD2_end D.s (drK k1 (A := X.A.in1) (I.ok.hd hc) i1 a D.a1 its.toArray) (drK k2 (A := X.A.in1) (I.ok.hd hc) i2 b D.b2 its2.toArray) hz hTI hTO ⟨h1, p⟩ ⟨h2, p2⟩ (by rw [List.size_toArray]; omega) (by rw [List.size_toArray]; omega) (by rw [List.size_toArray, List.size_toArray]; omega) fun h' tk hk => ⟨rfl, I.turnedL (t' := tk) (ch := [z, TI, TO, i1, i2]) (fun c o hb q =>
      hk c o (fun q' => hb (by simp [q'])) (fun q' => hb (by simp [q'])) (fun q' => hb (by simp [q'])) (fun q' => hb (by simp [q'])) q) hf⟩
  self := fun A i s Q E st h => wpAny_pyIter_zip st.1 h
def iZipK (K : PySem.W.Frag) (ta : TA) : TI := fun σ H R => ta σ H fun vs H1 => ∃ a b xs ys k1 k2, vs = [.ref a, .ref b] ∧ SqK K H1 a xs k1 ∧ SqK K H1 b ys k2 ∧ R (ItzK K a b k1 k2) H1
theorem pi_zipK {X : Cx} {e e2 : Expr} {ta : TA} {p pos tpos : Pos} {elts : List Expr} {kk : Nat} (hg : Gl X "zip") (hm : X.mg "zip" = none) (ha : PA X [e, e2] ta)
    (hs : starEach [e, e2] X.env = (false, eval e X.env) :: starEach [e2] X.env) (hpl : (backTo pos (starEach [e2] X.env)).any (·.1) = false) :
    PI X (.Tuple elts kk tpos) (.Call (.Name "zip" p) [e, e2] [] pos) (iZipK X.K ta) := by
  refine ⟨fun pins s σ H R I h => ?_⟩
  refine Call_ (ld_blt I hg hm PyProof.Rows.boot_zip (PyProof.Rows.callWith_type1 (thn (ha.run pos pins s σ H _ I h) fun us s1 ⟨vs, H1, I1, r1, q1⟩ => ?_) hs hpl))
  obtain ⟨a, b, xs, ys, k1, k2, ex, hqx, hqy, q⟩ := q1
  subst ex
  cases r1 with
  | cons r rr =>
    cases rr with
    | cons r' rr =>
      cases rr
      cases r
      cases r'
      obtain ⟨its, rv, p1⟩ := sqK I1 hqx
      obtain ⟨its2, rv2, p2⟩ := sqK I1 hqy
      have la := hasK_lt p1
      have lb := hasK_lt p2
      refine zip_begins2 (begK k1 a its.toArray) (begK k2 b its2.toArray) p1 p2 fun h' hz hTI hTO h1 h2 hsz hk => wpAny_pyIter_zip hz ?_
      have I2 : Inv X pins σ H1 { s1 with heap := h' } := I1.kept (t' := s1.toks) hk
      refine ⟨s1.heap.objs.size + 4, [s1.heap.objs.size + 4, s1.heap.objs.size + 2, s1.heap.objs.size + 3, s1.heap.objs.size, s1.heap.objs.size + 1], _, _, H1, rfl, I2,
        turn_zipK k1 k2 ⟨zip_sep2 (N := s1.heap.objs.size) (fp1 := [a]) (fp2 := [b]) (by simpa using la) (by simpa using lb), Nat.ne_of_lt la, Nat.ne_of_lt (Nat.lt_succ_of_lt lb)⟩, ⟨hz, hTI, ⟨_, _, hTO⟩, itAt_new k1 h1, itAt_new k2 h2⟩, fun c hcm => ?_, q⟩
      have e' : c = s1.heap.objs.size + 4 ∨ c = s1.heap.objs.size + 2 ∨ c = s1.heap.objs.size + 3 ∨ c = s1.heap.objs.size ∨ c = s1.heap.objs.size + 1 := by simpa using hcm
      have hle : s1.heap.objs.size ≤ c := by
        rcases e' with z | z | z | z | z
        · rw [z]; exact Nat.le_add_right _ _
        · rw [z]; exact Nat.le_add_right _ _
        · rw [z]; exact Nat.le_add_right _ _
        · rw [z]; exact Nat.le_refl _
        · rw [z]; exact Nat.le_add_right _ _
      exact I1.fpOk hle (I1.hok.fresh hle)
theorem walk_enumK {K : PySem.W.Frag} {a : Addr} {xs : List V} {kd : Kd} : Walk (IteK K a kd) xs.length (fun H => SqK K H a xs kd) (YPair (fun i => some (.int (i : Nat))) (fun i => xs[i]?)) :=
  ⟨fun i H hi h => ⟨xs, xs[i], h, by simp [hi]⟩, fun H h => ⟨xs, h, rfl⟩, fun i H v H' hi h ⟨T, x, e1, e2, e3, e4⟩ => ⟨T, _, x, e1, e2, e3, rfl, e4 xs h⟩⟩
theorem walk_zipK {K : PySem.W.Frag} {a b : Addr} {xs ys : List V} {k1 k2 : Kd} {n : Nat} (hn : n = min xs.length ys.length) : Walk (ItzK K a b k1 k2) n (fun H => SqK K H a xs k1 ∧ SqK K H b ys k2) (YPair (fun i => xs[i]?) (fun i => ys[i]?)) :=
  ⟨fun i H hi h => ⟨xs, ys, xs[i]'(by omega), ys[i]'(by omega), h.1, h.2, by simp, by simp⟩, fun H h => ⟨xs, ys, h.1, h.2, hn⟩, fun i H v H' hi h ⟨T, x, y, e1, e2, e3, e4, e5⟩ => ⟨T, x, y, e1, e2, e3, e4 xs h.1, e5 ys h.2⟩⟩
end DP

/-! Slots stored, targets, what is gone through. -/
namespace DP
open PySem PySem.Spec PyProof.Rows L2
section
variable {L : Lk} {G0 H0 G H : Hp} {io : Addr → Prop} {ρ : Ev} {σ : L2.St} {f : Nat → List Addr}
theorem set_get {α : Type} {l : List α} {i j : Nat} {x y : α} (h : (l.set i x)[j]? = some y) : (j = i ∧ y = x ∧ i < l.length) ∨ (j ≠ i ∧ l[j]? = some y) := by
  by_cases e : j = i
  · subst e
    by_cases hl : j < l.length
    · rw [List.getElem?_set_self hl] at h
      cases h
      exact .inl ⟨rfl, rfl, hl⟩
    · rw [List.getElem?_eq_none (by simpa using hl)] at h
      cases h
  · rw [List.getElem?_set_ne (Ne.symm e)] at h
    exact .inr ⟨e, h⟩
/-- a slot stored: a tree of its own nodes g -/
theorem SI.set (I : SI L G0 H0 io ρ σ G H f) {i : Nat} {v : V} {t : T} {g : List Addr} (r : RT L G H v t g) (n : g.Nodup) (fr : ∀ a ∈ g, G a = none ∧ (H0 a = none ∨ io a)) (dj : ∀ j, j ≠ i → ∀ a ∈ g, a ∉ f j) :
    SI L G0 H0 io (setV ρ i t) (σ.set i (some v)) G H (fun j => if j = i then g else f j) where
  sub := I.sub
  g0 := I.g0
  keep := I.keep
  new := I.new
  len := by rw [setV, List.length_set, List.length_set]; exact I.len
  own := fun j u e => by
    rcases set_get e with ⟨e1, e2, hl⟩ | ⟨e1, e2⟩
    · subst e1
      cases e2
      exact ⟨v, by rw [List.getElem?_set_self (by rw [I.len]; exact hl)], by rw [if_pos rfl]; exact r⟩
    · obtain ⟨w, a, b⟩ := I.own j u e2
      exact ⟨w, by rw [List.getElem?_set_ne (Ne.symm e1)]; exact a, by rw [if_neg e1]; exact b⟩
  fr := fun j a h => by
    by_cases e : j = i
    · rw [if_pos e] at h
      exact ⟨(fr a h).1, (fr a h).2, r.there a h⟩
    · rw [if_neg e] at h
      exact I.fr j a h
  bor := fun j u e => by
    rcases set_get e with ⟨e1, e2, hl⟩ | ⟨e1, e2⟩
    · cases e2
    · obtain ⟨w, fp, a, b, c⟩ := I.bor j u e2
      exact ⟨w, fp, by rw [List.getElem?_set_ne (Ne.symm e1)]; exact a, b, c⟩
  nd := fun j => by
    by_cases e : j = i
    · rw [if_pos e]; exact n
    · rw [if_neg e]; exact I.nd j
  dj := fun j k h a ha hb => by
    by_cases e : j = i
    · rw [if_pos e] at ha
      have hk : k ≠ i := fun z => h (e.trans z.symm)
      rw [if_neg hk] at hb
      exact dj k hk a ha hb
    · rw [if_neg e] at ha
      by_cases hk : k = i
      · rw [if_pos hk] at hb
        exact dj j e a hb ha
      · rw [if_neg hk] at hb
        exact I.dj j k h a ha hb
theorem SI.setFz (I : SI L G0 H0 io ρ σ G H f) {i : Nat} {v : V} {d : D} (r : RD L G v d) : SI L G0 H0 io (setV ρ i (.fz d)) (σ.set i (some v)) G H (fun j => if j = i then [] else f j) :=
  I.set (.fz r) List.nodup_nil (fun _ h => nomatch h) fun _ _ _ h => nomatch h
/-- a slot forgotten -/
theorem SI.drop (I : SI L G0 H0 io ρ σ G H f) (i : Nat) : SI L G0 H0 io (ρ.set i none) (σ.set i none) G H (fun j => if j = i then [] else f j) where
  sub := I.sub
  g0 := I.g0
  keep := I.keep
  new := I.new
  len := by rw [List.length_set, List.length_set]; exact I.len
  own := fun j u e => by
    rcases set_get e with ⟨e1, e2, hl⟩ | ⟨e1, e2⟩
    · cases e2
    · obtain ⟨w, a, b⟩ := I.own j u e2
      exact ⟨w, by rw [List.getElem?_set_ne (Ne.symm e1)]; exact a, by rw [if_neg e1]; exact b⟩
  fr := fun j a h => by
    by_cases e : j = i
    · rw [if_pos e] at h; cases h
    · rw [if_neg e] at h; exact I.fr j a h
  bor := fun j u e => by
    rcases set_get e with ⟨e1, e2, hl⟩ | ⟨e1, e2⟩
    · cases e2
    · obtain ⟨w, fp, a, b, c⟩ := I.bor j u e2
      exact ⟨w, fp, by rw [List.getElem?_set_ne (Ne.symm e1)]; exact a, b, c⟩
  nd := fun j => by
    by_cases e : j = i
    · rw [if_pos e]; exact List.nodup_nil
    · rw [if_neg e]; exact I.nd j
  dj := fun j k h a ha hb => by
    by_cases e : j = i
    · rw [if_pos e] at ha; cases ha
    · rw [if_neg e] at ha
      by_cases hk : k = i
      · rw [if_pos hk] at hb; cases hb
      · rw [if_neg hk] at hb; exact I.dj j k h a ha hb
theorem SI.wipe (I : SI L G0 H0 io ρ σ G H f) : ∀ vs : List Nat, ∃ g, SI L G0 H0 io (wipeE ρ vs) (L2.wipe σ vs) G H g
  | [] => ⟨f, I⟩
  | v :: vs => by
    obtain ⟨g, J⟩ := SI.wipe I vs
    exact ⟨_, J.drop v⟩
end

/-! ### targets -/
/-- a target's reading -/
def tG (L : Lk) (g : Tg) : TG := fun v σ H Q => ∃ G0 H0 io f ρ G d ρ', SI L G0 H0 io ρ σ G H f ∧ RD L G v d ∧ bindT g (.fz d) ρ = some ρ' ∧
  ∀ σ' f', SI L G0 H0 io ρ' σ' G H f' → σ'.length = σ.length → (∀ j, j ∉ gSl g → σ'[j]? = σ[j]?) → Q σ' H
def tGs (L : Lk) (gs : List Tg) : TGs := fun vs σ H Q => ∃ G0 H0 io f ρ G ds ρ', SI L G0 H0 io ρ σ G H f ∧ RDs L G vs ds ∧ bindF gs ds ρ = some ρ' ∧
  ∀ σ' f', SI L G0 H0 io ρ' σ' G H f' → σ'.length = σ.length → (∀ j, j ∉ gSls gs → σ'[j]? = σ[j]?) → Q σ' H
theorem assignEach_len (env : Env) : ∀ es : List Expr, (assignEach es env).length = es.length
  | [] => rfl
  | e :: es => by
    have ih := assignEach_len env es
    cases e <;> simp [assignEach, ih]
section
variable {X : Cx}
theorem mGs_each {fn : Str → Bool} {N : List Str} {sc : Scope} {env : Env} : ∀ {gs : List Tg} {es : List Expr}, mGs fn N sc gs es = true → (assignEach es env).findIdx? (·.1) = none
  | [], [], _ => rfl
  | [], _ :: _, h => by simp [mGs] at h
  | _ :: _, [], h => by simp [mGs] at h
  | g :: gs, e :: es, h => by
    simp only [mGs, Bool.and_eq_true] at h
    have ih := mGs_each (env := env) h.2
    have h1 := h.1
    cases g <;> cases e <;> first | (exfalso; simp [mG] at h1; done) | (simp [assignEach, List.findIdx?_cons, ih])
theorem mGs_len {fn : Str → Bool} {N : List Str} {sc : Scope} : ∀ {gs : List Tg} {es : List Expr}, mGs fn N sc gs es = true → gs.length = es.length
  | [], [], _ => rfl
  | [], _ :: _, h => by simp [mGs] at h
  | _ :: _, [], h => by simp [mGs] at h
  | g :: gs, e :: es, h => by
    simp only [mGs, Bool.and_eq_true] at h
    rw [List.length_cons, List.length_cons, mGs_len h.2]
theorem bindF_len {ρ' : Ev} : ∀ {gs : List Tg} {ds : List D} {ρ : Ev}, bindF gs ds ρ = some ρ' → gs.length = ds.length
  | [], [], _, _ => rfl
  | [], _ :: _, _, h => by simp [bindF] at h
  | _ :: _, [], _, h => by simp [bindF] at h
  | g :: gs, d :: ds, ρ, h => by
    simp only [bindF] at h
    obtain ⟨ρ1, _, h2⟩ := Option.bind_eq_some_iff.mp h
    rw [List.length_cons, List.length_cons, bindF_len h2]
mutual
theorem gOk {fn : Str → Bool} (hf : ∀ x, fn x = true → X.fn x = true) (nd : X.N.Nodup) (hc : X.calm = true) : ∀ (g : Tg) (e : Expr), mG fn X.N X.env.scope g e = true → PG X e (tG (lk X) g)
  | .nm i, e, h => by
    cases e <;> first | (exfalso; simp [mG] at h; done) | skip
    rename_i x p
    rw [mG] at h
    obtain ⟨h1, h2, h3⟩ := locB_ok hf h
    refine PG.of (pg_name nd h1 h2 h3) ?_
    rintro v σ H Q ⟨G0, H0, io, f, ρ, G, d, ρ', I, r, b, k⟩
    simp only [bindT, Option.some.injEq] at b
    subst b
    exact k _ _ (I.setFz r) (List.length_set) fun j hj => List.getElem?_set_ne (fun z => hj (by simp [gSl, z]))
  | .tup gs, e, h => by
    cases e <;> first | (exfalso; simp [mG] at h; done) | skip
    rename_i es n p
    rw [mG] at h
    refine PG.of (pg_tup hc (gsOk hf nd hc gs es h) (n := gs.length) (by rw [assignEach_len, mGs_len h]) (mGs_each h)) ?_
    rintro v σ H Q ⟨G0, H0, io, f, ρ, G, d, ρ', I, r, b, k⟩
    cases d <;> first | (exfalso; simp [bindT] at b; done) | skip
    rename_i ds
    simp only [bindT] at b
    obtain ⟨a, us, rfl, ha, hu⟩ := r.tup_inv
    exact ⟨a, us, rfl, Same.seqT I.sub ha, by rw [hu.length]; exact (bindF_len b).symm, G0, H0, io, f, ρ, G, ds, ρ', I, hu, b, k⟩
theorem gsOk {fn : Str → Bool} (hf : ∀ x, fn x = true → X.fn x = true) (nd : X.N.Nodup) (hc : X.calm = true) : ∀ (gs : List Tg) (es : List Expr), mGs fn X.N X.env.scope gs es = true → PGs X es (tGs (lk X) gs)
  | [], [], _ => by
    refine PGs.of pgs_nil ?_
    rintro vs σ H Q ⟨G0, H0, io, f, ρ, G, ds, ρ', I, r, b, k⟩
    cases ds with
    | nil =>
      cases r
      simp only [bindF, Option.some.injEq] at b
      subst b
      exact ⟨rfl, k σ f I rfl fun _ _ => rfl⟩
    | cons _ _ => simp [bindF] at b
  | [], _ :: _, h => by simp [mGs] at h
  | _ :: _, [], h => by simp [mGs] at h
  | g :: gs, e :: es, h => by
    simp only [mGs, Bool.and_eq_true] at h
    have hst : (assignEach (e :: es) X.env).map (·.2) = assign e X.env :: (assignEach es X.env).map (·.2) := by
      have h1 := h.1
      cases g <;> cases e <;> first | (exfalso; simp [mG] at h1; done) | rfl
    refine PGs.of (pgs_cons (gOk hf nd hc g e h.1) (gsOk hf nd hc gs es h.2) hst) ?_
    rintro vs σ H Q ⟨G0, H0, io, f, ρ, G, ds, ρ', I, r, b, k⟩
    cases ds with
    | nil => simp [bindF] at b
    | cons d ds =>
      cases r with
      | cons r1 r2 =>
        simp only [bindF] at b
        obtain ⟨ρ1, b1, b2⟩ := Option.bind_eq_some_iff.mp b
        refine ⟨_, _, rfl, G0, H0, io, f, ρ, G, d, ρ1, I, r1, b1, fun σ1 f1 I1 l1 k1 => ?_⟩
        refine ⟨G0, H0, io, f1, ρ1, G, ds, ρ', I1, r2, b2, fun σ2 f2 I2 l2 k2 => ?_⟩
        refine k σ2 f2 I2 (l2.trans l1) fun j hj => ?_
        simp only [gSls, List.mem_append, not_or] at hj
        exact (k2 j hj.2).trans (k1 j hj.1)
end
end
theorem wipe_get {σ : L2.St} : ∀ {vs : List Nat} {i : Nat}, (L2.wipe σ vs)[i]? = if i ∈ vs then (if i < σ.length then some none else none) else σ[i]?
  | [], i => by simp [L2.wipe]
  | v :: vs, i => by
    have ih := wipe_get (σ := σ) (vs := vs) (i := i)
    unfold L2.wipe
    by_cases e : i = v
    · subst e
      rw [if_pos List.mem_cons_self]
      by_cases hl : i < σ.length
      · rw [List.getElem?_set_self (by rw [wipe_length]; exact hl), if_pos hl]
      · rw [List.getElem?_eq_none (by rw [List.length_set, wipe_length]; omega), if_neg hl]
    · rw [List.getElem?_set_ne (Ne.symm e), ih]
      by_cases hm : i ∈ vs
      · rw [if_pos hm, if_pos (List.mem_cons_of_mem _ hm)]
      · rw [if_neg hm, if_neg (by simp [e, hm])]
theorem wipe_same {σ σ' : L2.St} {vs : List Nat} (hl : σ'.length = σ.length) (h : ∀ j, j ∉ vs → σ'[j]? = σ[j]?) : L2.wipe σ' vs = L2.wipe σ vs := by
  apply List.ext_getElem?
  intro i
  rw [wipe_get, wipe_get, hl]
  by_cases hm : i ∈ vs
  · rw [if_pos hm, if_pos hm]
  · rw [if_neg hm, if_neg hm, h i hm]

/-! ### what is gone through -/
/-- J goes through the plain items ds, whatever comes on the heap above G -/
def ItW (L : Lk) (J : It) (ds : List D) (G : Hp) : Prop := ∃ (Gd : Hp → Prop) (Y : Nat → Hp → V → Hp → Prop), Walk J ds.length Gd Y ∧ (∀ H', Same G H' → Gd H') ∧
  ∀ i H' G' x H'' d, Same G G' → Same G' H' → Y i H' x H'' → ds[i]? = some d → ∃ G'', Ext G' H' G'' H'' ∧ RD L G'' x d
structure ItP (L : Lk) (G H : Hp) (ds : List D) (J : It) (G' H' : Hp) : Prop where
  x : Ext G H G' H'
  w : ItW L J ds G'
instance (L : Lk) : Mono (fun G H => ItP L G H) where
  up := fun x p => ⟨x.trans p.x, p.w⟩
abbrev CnI (L : Lk) (W : WX) (σ : L2.St) (Rq : It → Hp → Prop) (G H : Hp) (r : R (List D)) : Prop := Cn L W σ (fun G H => ItP L G H) Rq G H r
def tI (L : Lk) (Γ : Gm) (W : WX) (e : DE) : TI := fun σ H Rq => ∃ ρ G, At L ρ σ G H ∧ CnI L W σ Rq G H (evi Γ ρ e)
section
variable {L : Lk} {G H : Hp} {a b : Addr} {xs ys : List V} {ds es : List D}
theorem itw_list (h : SqL L.K G a xs) (r : RDs L G xs ds) : ItW L (Itl L.K a) ds G := by
  refine ⟨_, _, by rw [← r.length]; exact walk_list, fun H' s => Same.seq s h, fun i H' G' x H'' d s1 s2 y e => ?_⟩
  obtain ⟨rfl, hx⟩ := y
  obtain ⟨v, h1, h2⟩ := r.get e
  rw [hx] at h1
  cases h1
  exact ⟨G', Ext.refl s2, h2.mono s1⟩
theorem itw_tup (h : SqT L.K G a xs) (r : RDs L G xs ds) : ItW L (Itt L.K a) ds G := by
  refine ⟨_, _, by rw [← r.length]; exact walk_tup, fun H' s => Same.seqT s h, fun i H' G' x H'' d s1 s2 y e => ?_⟩
  obtain ⟨rfl, hx⟩ := y
  obtain ⟨v, h1, h2⟩ := r.get e
  rw [hx] at h1
  cases h1
  exact ⟨G', Ext.refl s2, h2.mono s1⟩
theorem itw_range (lo : Int) (n : Nat) : ItW L (Itr lo n) (rngD lo n) G := by
  refine ⟨_, _, by rw [rngD, List.length_map, List.length_range]; exact walk_range, fun _ _ => trivial, fun i H' G' x H'' d s1 s2 y e => ?_⟩
  obtain ⟨rfl, rfl⟩ := y
  have hd : d = .int (lo + i) := by
    unfold rngD at e
    rw [List.getElem?_map] at e
    cases q : (List.range n)[i]? with
    | none => rw [q] at e; cases e
    | some k =>
      rw [q] at e
      have : k = i := by
        obtain ⟨h1, h2⟩ := List.getElem?_eq_some_iff.mp q
        simpa using h2.symm
      subst this
      cases e
      rfl
  subst hd
  exact ⟨G', Ext.refl s2, .int _⟩
def sqK_mono {K : PySem.W.Frag} {kd : Kd} (s : Same G H) (h : SqK K G a xs kd) : SqK K H a xs kd := by
  cases kd with
  | l => exact Same.seq s h
  | t => exact Same.seqT s h
theorem itw_enum {kd : Kd} (h : SqK L.K G a xs kd) (r : RDs L G xs ds) : ItW L (IteK L.K a kd) (dEnum ds) G := by
  refine ⟨_, _, by rw [dEnum, List.length_map, List.length_zipIdx, ← r.length]; exact walk_enumK, fun H' s => sqK_mono s h, fun i H' G' x H'' d s1 s2 y e => ?_⟩
  obtain ⟨Tt, u, v, rfl, n, rfl, e1, e2⟩ := y
  have e2 : xs[i]? = some v := e2
  cases e1
  unfold dEnum at e
  rw [List.getElem?_map, List.getElem?_zipIdx] at e
  cases q : ds[i]? with
  | none => rw [q] at e; cases e
  | some dd =>
    rw [q] at e
    simp only [Option.map_some, Nat.zero_add, Option.some.injEq] at e
    subst e
    obtain ⟨v', h1, h2⟩ := r.get q
    rw [e2] at h1
    cases h1
    have x := Ext.fz (o := .tup [.int (i : Int), v]) s2 n
    exact ⟨_, x, .tup (SqT.of upd_same) (.cons (.int _) (.cons (h2.mono (s1.trans x.g)) .nil))⟩
theorem itw_zip {k1 k2 : Kd} (h1 : SqK L.K G a xs k1) (r1 : RDs L G xs ds) (h2 : SqK L.K G b ys k2) (r2 : RDs L G ys es) : ItW L (ItzK L.K a b k1 k2) (dZip ds es) G := by
  refine ⟨_, _, walk_zipK (xs := xs) (ys := ys) (by rw [dZip, List.length_map, List.length_zip, r1.length, r2.length]), fun H' s => ⟨sqK_mono s h1, sqK_mono s h2⟩, fun i H' G' x H'' d s1 s2 y e => ?_⟩
  obtain ⟨Tt, u, v, rfl, n, rfl, e1, e2⟩ := y
  have e1 : xs[i]? = some u := e1
  have e2 : ys[i]? = some v := e2
  unfold dZip at e
  rw [List.getElem?_map] at e
  cases q : (ds.zip es)[i]? with
  | none => rw [q] at e; cases e
  | some p =>
    rw [q] at e
    obtain ⟨q1, q2⟩ := List.getElem?_zip_eq_some.mp q
    simp only [Option.map_some, Option.some.injEq] at e
    subst e
    obtain ⟨v1, a1, b1⟩ := r1.get q1
    obtain ⟨v2, a2, b2⟩ := r2.get q2
    rw [e1] at a1
    rw [e2] at a2
    cases a1
    cases a2
    have x := Ext.fz (o := .tup [u, v]) s2 n
    exact ⟨_, x, .tup (SqT.of upd_same) (.cons (b1.mono (s1.trans x.g)) (.cons (b2.mono (s1.trans x.g)) .nil))⟩
def kdOf : T → Kd
  | .fz (.tup _) => .t
  | _ => .l
/-- a thing to be gone through, taken into the ground where it is a list of its own -/
theorem items_src {v : V} {t : T} {pl : Bool} {G1 H1 : Hp} (p : Post L G H pl t v G1 H1) (e : itemsOf pl t = .ok ds) :
    ∃ G2 a xs, v = .ref a ∧ Ext G H G2 H1 ∧ Same G1 G2 ∧ SqK L.K G2 a xs (kdOf t) ∧ RDs L G2 xs ds ∧ (G2 = G1 ∨ ((∃ o, H1 a = some o) ∧ G2 = join G1 H1 [a])) := by
  obtain ⟨fp, r, fr⟩ := p.r
  have rf := Same.refl G1
  unfold itemsOf at e
  split at e
  · cases e
    obtain ⟨a, us, rfl, ha, hu⟩ := r.fz_inv.tup_inv
    exact ⟨G1, a, us, rfl, p.x, rf, ha, hu, .inl rfl⟩
  · cases e
    obtain ⟨a, us, rfl, ha, hu⟩ := r.fz_inv.lst_inv
    exact ⟨G1, a, us, rfl, p.x, rf, SqL.of ha, hu, .inl rfl⟩
  · cases e
    obtain ⟨a, rfl, ha⟩ := r.fz_inv.scr_inv
    exact ⟨G1, a, _, rfl, p.x, rf, ha, RDs.ints, .inl rfl⟩
  · split at e
    · cases e
    · rename_i hpl
      have e' := R.of_is e
      obtain ⟨a, us, f, rfl, hf, ha, hu⟩ := r.lst_inv
      obtain ⟨h1, h2⟩ := hu.plain e'
      subst h2
      have fr' : Fresh H G1 fp := by
        rcases fr with z | z
        · exact absurd z hpl
        · exact z
      have ma : a ∈ fp := by rw [hf]; exact List.mem_cons_self
      have n : ∀ c ∈ [a], H c = none := fun c hc => by
        have : c = a := by simpa using hc
        subst this
        exact (fr'.2 c ma).1
      have xx := p.x.freeze n
      refine ⟨join G1 H1 [a], a, us, rfl, xx, join_same p.x.sub, SqL.of ?_, h1.mono (join_same p.x.sub), .inr ⟨⟨_, ha⟩, rfl⟩⟩
      rw [join_in (by simp)]; exact ha
  · cases e
theorem Post.later {v : V} {t : T} {pl : Bool} {G1 H1 G2 H2 : Hp} (p : Post L G H pl t v G1 H1) (x : Ext G1 H1 G2 H2) : Post L G H pl t v G2 H2 := by
  obtain ⟨fp, r, fr⟩ := p.r
  refine ⟨p.x.trans x, fp, r.mono x.g fun a ha => ?_, fr.imp id fun f => ⟨f.1, fun a ha => ?_⟩⟩
  · obtain ⟨o, q⟩ := r.there a ha
    exact x.keep q
  · obtain ⟨o, q⟩ := r.there a ha
    exact ⟨(f.2 a ha).1, x.outG q (f.2 a ha).2⟩
end
end DP

/-! The evaluator is right: expressions. -/
namespace DP
open PySem PySem.Spec PyProof.Rows L2

/-- a def's promise: what the evaluator says of its call -/
def spF (L : Lk) (P : Pg) (m k : Nat) (f : Str) (n : Nat) : Sp := fun vs H Q E => vs.length = n ∧ ∃ (G : Hp) (ts : List T) (fp : List Addr), Same G H ∧ RTs L G H vs ts fp ∧
  CnE L (fun c d _ H' => E c d H') [] false Q G H (callK P m k f ts)
/-- the class that a name means -/
def ClsIs (mg : Str → Option Value) (c : Str) (v : V) (u : Value) : Prop :=
  (∃ C, v = .ref C ∧ u = .ref C ∧ mg c = some (.ref C)) ∨ ∃ n, v = .ty n ∧ u = .type n ∧ mg c = none ∧ bootBuiltins c = some (.type n)
structure Lnk (prog : Program) (w : World) (base : Heap) (L : Lk) (P : Pg) (C : Str → Bool) (m k : Nat) : Prop where
  fns : ∀ f df, P.defs f = some df → ∃ fa fd ps, L.mg f = some (.ref fa) ∧ PySem.W.keepIn L.K (.ref fa) = true ∧ Binds L.K fd ps [] ∧ ps.length = df.ps ∧ FnOk prog w L.K L.mg base (L2.CX prog w) k fa fd ps (spF L P m k f ps.length)
  glo : ∀ x d, P.glob x = some d → ∃ v u, L.mg x = some u ∧ RelV v u ∧ RD L (fun _ => none) v d
  blt : ∀ x : Str, x ∈ (["len", "abs", "int", "tuple", "list", "all", "max", "min", "range", "enumerate", "zip", "isinstance", "bool", "str", "dict"] : List Str) → L.mg x = none
  cls : ∀ c : Str, C c = true → ∃ v u, ClsIs L.mg c v u ∧ PySem.W.kitOne L.K (.type "NoneType") u = some false
  sub : ∀ (c d : Str) (b : Bool), P.sub c d = some b → ∃ Cc v u, L.mg c = some (.ref Cc) ∧ ClsIs L.mg d v u ∧ PySem.W.exmOne L.K (.ref Cc) u = some b ∧ PySem.W.kitOne L.K (.ref Cc) u = some b ∧ ExcC L.K Cc
/-- the defs that a program has -/
def hasD (P : Pg) (f : Str) : Bool := (P.defs f).isSome
structure Good (X : Cx) (P : Pg) (C : Str → Bool) (m k : Nat) (W : WX) : Prop where
  nd : X.N.Nodup
  calm : X.calm = true
  tk : Takes X W
  room : Room k X.A
  ln : Lnk X.prog X.w X.base (lk X) P C m k

section
variable {X : Cx} {P : Pg} {C : Str → Bool} {m k : Nat} {W : WX}
theorem Good.u (g : Good X P C m k W) : X.A.units + 65 < cLine := by have := g.room.un; omega
abbrev gm (P : Pg) (m k : Nat) : Gm := P.gm m k
theorem callK_len {f : Str} {ts : List T} (h : callK P m k f ts ≠ .no) : ∃ df, P.defs f = some df ∧ ts.length = df.ps := by
  cases k with
  | zero => exact absurd rfl h
  | succ k =>
    unfold callK at h
    cases e : P.defs f with
    | none => rw [e] at h; exact absurd rfl h
    | some df =>
      rw [e] at h
      simp only at h
      by_cases q : ts.length = df.ps
      · exact ⟨df, rfl, q⟩
      · rw [if_neg q] at h; exact absurd rfl h
theorem Cn.wish {L : Lk} {σ : L2.St} {Q : VK} {G H : Hp} {r : R T} (c : CnE L W σ false Q G H r) : CnE L (fun cl d _ H' => WE W σ cl d H') [] false Q G H r := by
  cases r with
  | ok t => exact c
  | ex x => exact c
  | no => exact c
/-- zero arguments -/
theorem pe_call0S {CX : CXT} {kk : Nat} {f : Addr} {fd : FuncData} {ps : List Str} {sp : Sp} {E : L2.St → XK} {x : Str} {p pos : Pos} (F : FnOk X.prog X.w X.K X.mg X.base CX kk f fd ps sp) (hr : Room kk X.A) (hg : Gl X x) (hm : X.mg x = some (.ref f)) (hk : PySem.W.keepIn X.K (.ref f) = true)
    (hb : Binds X.K fd ps []) (hx : ∀ σ, PassesAt CX X σ (E σ)) (hdb : (x == ("__debug__" : Str)) = false) : PE X (.Call (.Name x p) [] [] pos) (tCallS sp E tNil) := by
  refine ⟨fun pins s σ H Q I h => ?_⟩
  refine wpAny_Call_Name_kw (ld_glob I hg hm ?_ hdb)
  exact PySem.W.callWith_K0 I.kIn hk (run_fnS (us := []) F hr hb (hx σ) I .nil h)

/-! ### one by one -/
theorem sVar (g : Good X P C m k W) {i : Nat} {x : Expr} (h : mE (hasD P) C X.N X.env.scope (.var i) x = true) : PE X x (tE (lk X) (gm P m k) W (.var i)) := by
  unfold mE at h
  split at h
  · obtain ⟨h1, h2, h3, h4⟩ := visB_ok h
    refine PE.of (pe_var h1 h2 h3 h4) ?_
    rintro σ H Q ⟨ρ, G, A, c⟩
    rw [ev] at c
    split at c
    · rename_i s e
      obtain ⟨v, fp, e1, e2⟩ := A.slot e
      exact ⟨v, e1, c v G H ⟨Ext.refl A.sub, fp, e2, .inl rfl⟩⟩
    · exact c.elim
  · cases h
theorem sConst {d : D} {v : V} {e : DE} {x : Expr} (hp : PE X x (tC v)) (he : ∀ ρ, ev (gm P m k) ρ e = .ok (.fz d)) (r : ∀ G, RD (lk X) G v d) : PE X x (tE (lk X) (gm P m k) W e) := by
  refine PE.of hp ?_
  rintro σ H Q ⟨ρ, G, A, c⟩
  rw [he] at c
  exact Cn.fz A.sub c (r G)
theorem sGlob (g : Good X P C m k W) {n : Str} {x : Expr} (h : mE (hasD P) C X.N X.env.scope (.glob n) x = true) : PE X x (tE (lk X) (gm P m k) W (.glob n)) := by
  unfold mE at h
  split at h
  · rename_i y pos
    simp only [Bool.and_eq_true, decide_eq_true_eq] at h
    obtain ⟨rfl, h2⟩ := h
    obtain ⟨hg, hd, _⟩ := glB_ok h2
    cases e : P.glob n with
    | none =>
      refine ⟨fun pins s σ H Q I q => ?_⟩
      obtain ⟨ρ, G, A, c⟩ := q
      rw [ev] at c
      have e2 : (gm P m k).glob n = none := e
      rw [e2] at c
      exact c.elim
    | some d =>
      obtain ⟨v, u, hm, r, rd⟩ := g.ln.glo n d e
      refine PE.of (pe_glob hg hm r hd) ?_
      rintro σ H Q ⟨ρ, G, A, c⟩
      rw [ev] at c
      have e2 : (gm P m k).glob n = some d := e
      rw [e2] at c
      exact Cn.fz A.sub c (rd.mono fun b o z => by cases z)
  · cases h
theorem sArgs (es : List DE) (xs : List Expr) (h : mEs (hasD P) C X.N X.env.scope es xs = true) (ih : ∀ e ∈ es, ∀ x, mE (hasD P) C X.N X.env.scope e x = true → PE X x (tE (lk X) (gm P m k) W e)) :
    PA X xs (tA (lk X) (gm P m k) W es) := by
  induction es generalizing xs with
  | nil =>
    cases xs with
    | cons _ _ => simp [mEs] at h
    | nil =>
      refine PA.of pa_nil ?_
      rintro σ H Q ⟨ρ, G, A, c⟩
      rw [evs] at c
      exact c [] G H ⟨Ext.refl A.sub, [], .nil, fun _ => Fresh.nil⟩
  | cons e es ihs =>
    cases xs with
    | nil => simp [mEs] at h
    | cons x xs =>
      simp only [mEs, Bool.and_eq_true] at h
      have ht := ihs xs h.2 fun e he => ih e (List.mem_cons_of_mem _ he)
      refine PA.of (pa_cons (ih e List.mem_cons_self x h.1.1) ht (star_cons xs _ h.1.2)) ?_
      rintro σ H Q ⟨ρ, G, A, c⟩
      rw [evs] at c
      have xr := Ext.refl A.sub
      refine subE A xr c fun t v G1 H1 p A1 x1 c1 => ?_
      unfold R.map at c1
      refine subA A1 x1 c1 fun ts vs G2 H2 p2 A2 x2 c2 => ?_
      obtain ⟨fp, r, fr⟩ := p.r
      obtain ⟨fps, rs, frs⟩ := p2.r
      refine c2 (v :: vs) G2 H2 ⟨x2, fp ++ fps, .cons (r.mono p2.x.g fun a ha => ?_) rs, fun hs => ?_⟩
      · obtain ⟨o, q⟩ := r.there a ha
        exact p2.x.keep q
      · simp only [stos, Bool.and_eq_true] at hs
        have f1 : Fresh H G1 fp := by
          rcases fr with z | z
          · have hs1 := hs.1
            unfold sto at hs1
            rw [z] at hs1
            simp at hs1
            cases t <;> simp [isFz] at hs1
            cases r
            exact Fresh.nil
          · exact z
        have f2 := frs hs.2
        refine ⟨List.nodup_append.mpr ⟨f1.1, f2.1, fun a ha b hb e => ?_⟩, fun a ha => ?_⟩
        · subst e
          obtain ⟨o, q⟩ := r.there a ha
          rw [(f2.2 a hb).1] at q
          cases q
        · rcases List.mem_append.mp ha with z | z
          · obtain ⟨o, q⟩ := r.there a z
            exact ⟨(f1.2 a z).1, p2.x.outG q (f1.2 a z).2⟩
          · exact ⟨p.x.h.free (f2.2 a z).1, (f2.2 a z).2⟩
end
end DP

/-! The evaluator is right: expressions, one by one. -/
namespace DP
open PySem PySem.Spec PyProof.Rows L2
section
variable {L : Lk} {G H G1 H1 G2 H2 : Hp}
theorem RT.later {v : V} {t : T} {fp : List Addr} (r : RT L G1 H1 v t fp) (x : Ext G1 H1 G2 H2) : RT L G2 H2 v t fp :=
  r.mono x.g fun a ha => by
    obtain ⟨o, q⟩ := r.there a ha
    exact x.keep q
theorem sto_fz {e : DE} {t : T} (h : sto e t = true) (p : isPl e = true) : isFz t = true := by
  unfold sto at h
  rw [p] at h
  simpa using h
/-- what may be laid down has nodes of its own -/
theorem Post.fresh {e : DE} {t : T} {v : V} (p : Post L G H (isPl e) t v G1 H1) (h : sto e t = true) : ∃ fp, RT L G1 H1 v t fp ∧ Fresh H G1 fp := by
  obtain ⟨fp, r, fr⟩ := p.r
  rcases fr with z | z
  · have := sto_fz h z
    cases t <;> simp [isFz] at this
    cases r
    exact ⟨[], .fz (by assumption), Fresh.nil⟩
  · exact ⟨fp, r, z⟩
end
section
variable {X : Cx} {P : Pg} {C : Str → Bool} {m k : Nat} {W : WX}
abbrev PEok (X : Cx) (P : Pg) (m k : Nat) (W : WX) (e : DE) (x : Expr) : Prop := PE X x (tE (lk X) (gm P m k) W e)
abbrev PAok (X : Cx) (P : Pg) (m k : Nat) (W : WX) (e : List DE) (x : List Expr) : Prop := PA X x (tA (lk X) (gm P m k) W e)
theorem sTup {es : List DE} {xs : List Expr} {n : Nat} {pos : Pos} (ha : PAok X P m k W es xs) : PEok X P m k W (.tup es) (.Tuple xs n pos) := by
  refine PE.of (pe_tup ha) ?_
  rintro σ H Q ⟨ρ, G, A, c⟩
  unfold ev at c
  refine subA A (Ext.refl A.sub) c fun ts vs G1 H1 p A1 x1 c1 => ?_
  obtain ⟨fp, rs, fr⟩ := p.r
  split at c1
  · rename_i hl
    refine ⟨by rw [rs.length]; exact Nat.le_trans hl (by decide), fun a n => ?_⟩
    split at c1
    · rename_i ds e
      obtain ⟨h1, _⟩ := rs.plain e
      exact Cn.newFz A1.sub (Cn.ext x1 c1) n (.tup (SqT.of upd_same) (h1.mono (new_same A1.sub n)))
    · split at c1
      · rename_i hs
        have f := fr hs
        have xo := Ext.own (o := .tup vs) A1.sub n
        refine c1 _ _ _ ⟨x1.trans xo, a :: fp, .tup upd_same (rs.mono (Same.refl _) fun b hb => ?_), .inr ⟨List.nodup_cons.mpr ⟨fun z => ?_, f.1⟩, fun b hb => ?_⟩⟩
        · obtain ⟨o, q⟩ := rs.there b hb
          exact upd_ne (ne_of_none q n)
        · obtain ⟨o, q⟩ := rs.there a z
          rw [n] at q; cases q
        · rcases List.mem_cons.mp hb with z | z
          · subst z
            exact ⟨p.x.h.free n, A1.sub.free n⟩
          · exact f.2 b z
      · exact c1.elim
  · exact c1.elim
theorem sLst {es : List DE} {xs : List Expr} {pos : Pos} (ha : PAok X P m k W es xs) : PEok X P m k W (.lst es) (.List xs pos) := by
  refine PE.of (pe_lst ha) ?_
  rintro σ H Q ⟨ρ, G, A, c⟩
  unfold ev at c
  refine subA A (Ext.refl A.sub) c fun ts vs G1 H1 p A1 x1 c1 => ?_
  obtain ⟨fp, rs, fr⟩ := p.r
  split at c1
  · rename_i hl
    refine ⟨by rw [rs.length]; exact Nat.le_trans hl (by decide), fun a n => ?_⟩
    split at c1
    · rename_i hs
      have f := fr hs
      have xo := Ext.own (o := .lst vs) A1.sub n
      refine c1 _ _ _ ⟨x1.trans xo, a :: fp, .lst upd_same (rs.mono (Same.refl _) fun b hb => ?_), .inr ⟨List.nodup_cons.mpr ⟨fun z => ?_, f.1⟩, fun b hb => ?_⟩⟩
      · obtain ⟨o, q⟩ := rs.there b hb
        exact upd_ne (ne_of_none q n)
      · obtain ⟨o, q⟩ := rs.there a z
        rw [n] at q; cases q
      · rcases List.mem_cons.mp hb with z | z
        · subst z
          exact ⟨p.x.h.free n, A1.sub.free n⟩
        · exact f.2 b z
    · exact c1.elim
  · exact c1.elim
theorem dIx_ok {t u : T} : dIx t u = .no ∨ ∃ r, dIx t u = .ok r := by
  cases h : dIx t u with
  | ok r => exact .inr ⟨r, rfl⟩
  | no => exact .inl rfl
  | ex x =>
    exfalso
    unfold dIx at h
    split at h
    · split at h
      · cases q : atI _ _ <;> rw [q] at h <;> cases h
      · cases q : atI _ _ <;> rw [q] at h <;> cases h
      · cases q : atI _ _ <;> rw [q] at h <;> cases h
      · split at h
        · cases q : atI _ _ <;> rw [q] at h <;> cases h
        · cases h
      · cases q : atI _ _ <;> rw [q] at h <;> cases h
      · cases q : atI _ _ <;> rw [q] at h <;> cases h
      · cases q : lookK _ _ <;> rw [q] at h <;> cases h
      · cases q : lookK _ _ <;> rw [q] at h <;> cases h
      · cases h
    · split at h
      · cases q : lookK _ _ <;> rw [q] at h <;> cases h
      · cases q : lookK _ _ <;> rw [q] at h <;> cases h
      · cases h
    · cases h
theorem sIx (g : Good X P C m k W) {a b : DE} {x y : Expr} {pos : Pos} (ha : PEok X P m k W a x) (hb : PEok X P m k W b y) (hs : noSlice y = true) : PEok X P m k W (.ix a b) (.Subscript x y pos) := by
  have hn : NoSl y := by
    cases y <;> first | (exact fun _ _ => rfl) | (exact rfl) | trivial | (simp [noSlice] at hs)
  refine PE.of (PE.or (pe_ix ix_seq ha hb (plainIx hs)) (pe_dget (by have := g.u; omega) ha hb hn)) ?_
  rintro σ H Q ⟨ρ, G, A, c⟩
  unfold ev at c
  have fin : ∀ {t v G1 H1 u w G2 H2}, Post (lk X) G H (isPl a) t v G1 H1 → Post (lk X) G1 H1 (isPl b) u w G2 H2 → Ext G H G2 H2 → Same G2 H2 → CnE (lk X) W σ (isPl (.ix a b)) Q G H (dIx t u) →
      (isDic t = false ∧ rIx X.K v w H2 Q) ∨ (isDic t = true ∧ ∃ ad vv, v = .ref ad ∧ DGet H2 ad w (some vv) ∧ Q vv H2) := by
    intro t v G1 H1 u w G2 H2 p p2 x2 s2 c2
    obtain ⟨fp, r, fr⟩ := p.r
    obtain ⟨fq, r2, _⟩ := p2.r
    rcases dIx_ok (t := t) (u := u) with e | ⟨rr, e⟩
    · rw [e] at c2; exact c2.elim
    · rw [e] at c2
      obtain ⟨vv, gg, h1, h2, h3⟩ := ix_cases s2 (r.later p2.x) r2 e
      have q : Q vv H2 := c2 vv G2 H2 ⟨x2, gg, h1, by
        rcases fr with z | z
        · exact .inl z
        · refine .inr ⟨h2.nodup z.1, fun b hb => ?_⟩
          have hb' := h2.subset hb
          obtain ⟨o, q⟩ := r.there b hb'
          exact ⟨(z.2 b hb').1, p2.x.outG q (z.2 b hb').2⟩⟩
      rcases h3 with ⟨hd, h3⟩ | ⟨hd, ad, h3, h4⟩
      · exact .inl ⟨hd, h3 Q q⟩
      · exact .inr ⟨hd, ad, vv, h3, h4, q⟩
  cases hd : (match ev (gm P m k) ρ a with | .ok t => isDic t | _ => false) with
  | false =>
    refine .inl (subE' A (Ext.refl A.sub) c fun t v G1 H1 e p A1 x1 c1 => subE A1 x1 c1 fun u w G2 H2 p2 A2 x2 c2 => ?_)
    rw [e] at hd
    rcases fin p p2 x2 A2.sub c2 with ⟨_, z⟩ | ⟨z, _⟩
    · exact z
    · rw [show isDic t = false from hd] at z; cases z
  | true =>
    refine .inr (subE' A (Ext.refl A.sub) c fun t v G1 H1 e p A1 x1 c1 => subE A1 x1 c1 fun u w G2 H2 p2 A2 x2 c2 => ?_)
    rw [e] at hd
    rcases fin p p2 x2 A2.sub c2 with ⟨z, _⟩ | ⟨_, z⟩
    · rw [show isDic t = true from hd] at z; cases z
    · exact z
theorem dSl_fz {Q : VK} {σ : L2.St} {G H : Hp} {pl pl' : Bool} {r : R T} (c : CnE (lk X) W σ pl Q G H r) (h : pl = true ∨ pl' = false) : CnE (lk X) W σ pl' Q G H r := by
  cases r with
  | ok t => exact fun v G' H' p => c v G' H' ⟨p.x, let ⟨fp, r, f⟩ := p.r; ⟨fp, r, by
      rcases h with z | z
      · exact .inl z
      · rcases f with w | w
        · rw [z] at w; cases w
        · exact .inr w⟩⟩
  | ex x => exact c
  | no => exact c
theorem sSl {a : DE} {lo hi : Option DE} {x : Expr} {l u : Option Expr} {p2 pos : Pos} (ha : PEok X P m k W a x) (hl : PO X l (tO (lk X) (gm P m k) W lo)) (hu : PO X u (tO (lk X) (gm P m k) W hi)) :
    PEok X P m k W (.sl a lo hi) (.Subscript x (.Slice l u none p2) pos) := by
  refine PE.of (pe_slice slD ha hl hu) ?_
  rintro σ H Q ⟨ρ, G, A, c⟩
  unfold ev at c
  refine subE A (Ext.refl A.sub) c fun t v G1 H1 p A1 x1 c1 => subO A1 x1 c1 fun o1 G2 H2 p2 A2 x2 c2 => subO A2 x2 c2 fun o2 G3 H3 p3 A3 x3 c3 => ?_
  obtain ⟨fp, r, fr⟩ := p.r
  exact ⟨W, σ, G3, t, fp, A3.sub, (r.later p2).later p3, Cn.ext x3 c3⟩
theorem sRev {a : DE} {x : Expr} {n : Nat} {p1 p2 p3 pos : Pos} (ha : PEok X P m k W a x) : PEok X P m k W (.rev a) (.Subscript x (.Slice none none (some (.UnaryOp .USub (.Constant (.int 1) n p1) p2)) p3) pos) := by
  refine PE.of (pe_revL ha) ?_
  rintro σ H Q ⟨ρ, G, A, c⟩
  unfold ev at c
  refine subE A (Ext.refl A.sub) c fun t v G1 H1 p A1 x1 c1 => ?_
  obtain ⟨fp, r, fr⟩ := p.r
  split at c1
  · rename_i ds e
    obtain ⟨ad, us, rfl, h1, h2⟩ := plain_read A1.sub r e
    exact ⟨ad, us, rfl, SqL.of h1, fun q hq => Cn.newL A1.sub (Cn.ext x1 c1) hq h2.reverse⟩
  · exact c1.elim
theorem sBin (g : Good X P C m k W) {o : BinO} {op : Operator} {a b : DE} {x y : Expr} {pos : Pos} (h : opB o op = true) (ha : PEok X P m k W a x) (hb : PEok X P m k W b y) : PEok X P m k W (.bin o a b) (.BinOp x op y pos) := by
  refine PE.of (pe_op (opBin (by have := g.u; omega) h) ha hb) ?_
  rintro σ H Q ⟨ρ, G, A, c⟩
  unfold ev at c
  refine subE A (Ext.refl A.sub) c fun t v G1 H1 p A1 x1 c1 => subE A1 x1 c1 fun u w G2 H2 p2 A2 x2 c2 => ?_
  obtain ⟨fp, r, fr⟩ := p.r
  obtain ⟨fq, r2, _⟩ := p2.r
  exact ⟨W, σ, G2, t, u, fp, fq, false, A2.sub, r.later p2.x, r2, Cn.ext x2 c2⟩
theorem sNeg {a : DE} {x : Expr} {pos : Pos} (ha : PEok X P m k W a x) : PEok X P m k W (.neg a) (.UnaryOp .USub x pos) := by
  refine PE.of (pe_un un_neg ha) ?_
  rintro σ H Q ⟨ρ, G, A, c⟩
  unfold ev at c
  refine subE A (Ext.refl A.sub) c fun t v G1 H1 p A1 x1 c1 => ?_
  obtain ⟨fp, r, fr⟩ := p.r
  split at c1
  · rename_i i
    have e := r.fz_inv.int_inv
    subst e
    exact ⟨i, rfl, Cn.fz A1.sub (Cn.ext x1 c1) (.int _)⟩
  · exact c1.elim
theorem dCmp_ok {o : CmpO} {t u : T} : dCmp o t u = .no ∨ ∃ r, dCmp o t u = .ok r := by
  cases h : dCmp o t u with
  | ok r => exact .inr ⟨r, rfl⟩
  | no => exact .inl rfl
  | ex x =>
    exfalso
    have eq : ∀ a b, eqD a b ≠ .ex x := fun a b z => by unfold eqD at z; split at z <;> cases z
    have hin : ∀ a b, dIn a b ≠ .ex x := fun a b z => by
      unfold dIn at z
      split at z
      · split at z
        · unfold inD at z; split at z <;> cases z
        · split at z <;> cases z
        · split at z <;> cases z
        · split at z <;> cases z
        · unfold inD at z; split at z <;> cases z
        · unfold inD at z; split at z <;> cases z
        · cases z
      · cases z
    have his : ∀ a b, dIs a b ≠ .ex x := fun a b z => by
      unfold dIs at z
      split at z
      · cases z
      · split at z <;> cases z
      · cases z
    have hor : ∀ f a b, dOrd f a b ≠ .ex x := fun f a b z => by
      unfold dOrd at z
      split at z <;> cases z
    have hm : ∀ (r : R Bool), r.map (!·) = .ex x → r = .ex x := fun r z => by
      cases r with
      | ok a => cases z
      | ex y => cases z; rfl
      | no => cases z
    cases o
    · exact eq _ _ h
    · exact eq _ _ (hm _ h)
    · exact hor _ _ _ h
    · exact hor _ _ _ h
    · exact hor _ _ _ h
    · exact hor _ _ _ h
    · exact his _ _ h
    · exact his _ _ (hm _ h)
    · exact hin _ _ h
    · exact hin _ _ (hm _ h)
theorem cmp_fin {σ : L2.St} {Q : VK} {pl pl2 : Bool} {o : CmpO} {t u : T} {v w : V} {Gb Hb G G1 H1 G2 H2 H : Hp} {a : Bool} (p : Post (lk X) G H a t v G1 H1) (p2 : Post (lk X) G1 H1 pl2 u w G2 H2) (s : Same G2 H2) (x2 : Ext Gb Hb G2 H2)
    (c2 : CnE (lk X) W σ pl Q Gb Hb ((dCmp o t u).map fun r => .fz (.bl r))) : rVb (lk X) (dCmp o) v w H2 Q := by
  obtain ⟨fp, r, fr⟩ := p.r
  obtain ⟨fq, r2, _⟩ := p2.r
  rcases dCmp_ok (o := o) (t := t) (u := u) with e | ⟨b, e⟩
  · rw [e] at c2; exact c2.elim
  · rw [e] at c2
    exact ⟨G2, t, u, fp, fq, b, s, r.later p2.x, r2, e, Cn.fz s (Cn.ext x2 c2) (.bl b)⟩
theorem sCmp (g : Good X P C m k W) {o : CmpO} {op : CmpOp} {a b : DE} {x y : Expr} {pos : Pos} (h : cmB o op = true) (ha : PEok X P m k W a x) (hb : PEok X P m k W b y) (hs : noSet y = true) : PEok X P m k W (.cmp o a b) (.Compare x [op] [y] pos) := by
  refine PE.of (pe_cmpR (opCmp g.u h) ha hb (noMarks op hs)) ?_
  rintro σ H Q ⟨ρ, G, A, c⟩
  unfold ev at c
  refine subE A (Ext.refl A.sub) c fun t v G1 H1 p A1 x1 c1 => subE A1 x1 c1 fun u w G2 H2 p2 A2 x2 c2 => ?_
  exact cmp_fin p p2 A2.sub x2 c2
theorem sChain (g : Good X P C m k W) {o o' : CmpO} {op op' : CmpOp} {a b d : DE} {x y z : Expr} {pos : Pos} (h : cmB o op = true) (h' : cmB o' op' = true) (ha : PEok X P m k W a x) (hb : PEok X P m k W b y) (hd : PEok X P m k W d z) (hs : noSet y = true) (hs' : noSet z = true) :
    PEok X P m k W (.chain o o' a b d) (.Compare x [op, op'] [y, z] pos) := by
  refine PE.of (pe_chain (opCmp g.u h) (opCmp g.u h') ha hb hd (by unfold lastMarks; unfold lastMarks; exact noMarks op' hs')) ?_
  rintro σ H Q ⟨ρ, G, A, c⟩
  unfold ev at c
  refine subE A (Ext.refl A.sub) c fun t v G1 H1 p A1 x1 c1 => subE A1 x1 c1 fun u w G2 H2 p2 A2 x2 c2 => ?_
  obtain ⟨fp, r, fr⟩ := p.r
  obtain ⟨fq, r2, _⟩ := p2.r
  rcases dCmp_ok (o := o) (t := t) (u := u) with e | ⟨bb, e⟩
  · rw [e] at c2; exact c2.elim
  · rw [e] at c2
    refine ⟨G2, t, u, fp, fq, bb, A2.sub, r.later p2.x, r2, e, bb, rfl, ?_⟩
    cases bb with
    | false => exact Cn.fz A2.sub (Cn.ext x2 c2) (.bl false)
    | true =>
      refine subE A2 x2 c2 fun u3 w3 G3 H3 p3 A3 x3 c3 => ?_
      obtain ⟨f3, r3, _⟩ := p3.r
      rcases dCmp_ok (o := o') (t := u) (u := u3) with e3 | ⟨b3, e3⟩
      · rw [e3] at c3; exact c3.elim
      · rw [e3] at c3
        exact ⟨G3, u, u3, fq, f3, b3, A3.sub, r2.later p3.x, r3, e3, Cn.fz A3.sub (Cn.ext x3 c3) (.bl b3)⟩
end
end DP

/-! The evaluator is right: and, or, not, tests, calls. -/
namespace DP
open PySem PySem.Spec PyProof.Rows L2
section
variable {X : Cx} {P : Pg} {C : Str → Bool} {m k : Nat} {W : WX}
theorem asB_ok {t : T} : asB t = .no ∨ ∃ b, t = .fz (.bl b) := by
  unfold asB
  split
  · exact .inr ⟨_, rfl⟩
  · exact .inl rfl
theorem bool_fin {σ : L2.St} {Q : VK} {pl a : Bool} {t : T} {v : V} {Gb Hb G H G1 H1 : Hp} (p : Post (lk X) G H a t v G1 H1) (s : Same G1 H1) (x1 : Ext Gb Hb G1 H1) (c : CnE (lk X) W σ pl Q Gb Hb ((asB t).map fun q => .fz (.bl q))) : Q v H1 := by
  obtain ⟨fp, r, fr⟩ := p.r
  rcases asB_ok (t := t) with e | ⟨q, rfl⟩
  · rw [e] at c; exact c.elim
  · have e := r.fz_inv.bl_inv
    subst e
    exact Cn.fz s (Cn.ext x1 c) (.bl q)
theorem sAnd {a b : DE} {x y : Expr} {r : List Expr} {pos : Pos} (ha : PEok X P m k W a x) (hb : PEok X P m k W b (.BoolOp .And (y :: r) pos)) : PEok X P m k W (.and a b) (.BoolOp .And (x :: y :: r) pos) := by
  refine PE.of (pe_and ha hb) ?_
  rintro σ H Q ⟨ρ, G, A, c⟩
  unfold ev at c
  refine subE A (Ext.refl A.sub) c fun t v G1 H1 p A1 x1 c1 => ?_
  obtain ⟨fp, r, fr⟩ := p.r
  rcases asB_ok (t := t) with e | ⟨q, rfl⟩
  · rw [e] at c1; exact c1.elim
  · refine ⟨q, r.fz_inv.bl_inv, ?_⟩
    cases q with
    | true =>
      rw [if_pos rfl]
      exact subE A1 x1 c1 fun t2 v2 G2 H2 p2 A2 x2 c2 => bool_fin p2 A2.sub x2 c2
    | false =>
      rw [if_neg Bool.false_ne_true]
      exact Cn.fz A1.sub (Cn.ext x1 c1) (.bl false)
theorem sOr {a b : DE} {x y : Expr} {r : List Expr} {pos : Pos} (ha : PEok X P m k W a x) (hb : PEok X P m k W b (.BoolOp .Or (y :: r) pos)) : PEok X P m k W (.or a b) (.BoolOp .Or (x :: y :: r) pos) := by
  refine PE.of (pe_or ha hb) ?_
  rintro σ H Q ⟨ρ, G, A, c⟩
  unfold ev at c
  refine subE A (Ext.refl A.sub) c fun t v G1 H1 p A1 x1 c1 => ?_
  obtain ⟨fp, r, fr⟩ := p.r
  rcases asB_ok (t := t) with e | ⟨q, rfl⟩
  · rw [e] at c1; exact c1.elim
  · refine ⟨q, r.fz_inv.bl_inv, ?_⟩
    cases q with
    | true =>
      rw [if_pos rfl]
      exact Cn.fz A1.sub (Cn.ext x1 c1) (.bl true)
    | false =>
      rw [if_neg Bool.false_ne_true]
      exact subE A1 x1 c1 fun t2 v2 G2 H2 p2 A2 x2 c2 => bool_fin p2 A2.sub x2 c2
theorem sOne {op : BoolOp} {b : DE} {y : Expr} {pos : Pos} (hb : PEok X P m k W b y) : PEok X P m k W b (.BoolOp op [y] pos) := pe_one hb
theorem sNot {a : DE} {x : Expr} {pos : Pos} (ha : PEok X P m k W a x) : PEok X P m k W (.not a) (.UnaryOp .Not x pos) := by
  refine PE.of (pe_not ha) ?_
  rintro σ H Q ⟨ρ, G, A, c⟩
  unfold ev at c
  refine subE A (Ext.refl A.sub) c fun t v G1 H1 p A1 x1 c1 => ?_
  obtain ⟨fp, r, fr⟩ := p.r
  rcases asB_ok (t := t) with e | ⟨q, rfl⟩
  · rw [e] at c1; exact c1.elim
  · exact ⟨q, r.fz_inv.bl_inv, Cn.fz A1.sub (Cn.ext x1 c1) (.bl _)⟩
/-! ### tests -/
abbrev PTok (X : Cx) (P : Pg) (m k : Nat) (W : WX) (e : DE) (x : Expr) : Prop := PT X x (tB (lk X) (gm P m k) W e)
abbrev PWok (X : Cx) (P : Pg) (m k : Nat) (W : WX) (e : DE) (x : Expr) : Prop := PW X x (tB (lk X) (gm P m k) W e)
theorem asB_fin {σ : L2.St} {Q : Bool → Hp → Prop} {t : T} {v : V} {Gb Hb G1 H1 : Hp} {fp : List Addr} (r : RT (lk X) G1 H1 v t fp) (s : Same G1 H1) (x1 : Ext Gb Hb G1 H1) (c : CnP (lk X) W σ Q Gb Hb (asB t)) : ∃ b, v = .bl b ∧ Q b H1 := by
  rcases asB_ok (t := t) with e | ⟨q, rfl⟩
  · rw [e] at c; exact c.elim
  · exact ⟨q, r.fz_inv.bl_inv, c q G1 H1 ⟨x1, rfl⟩⟩
/-- an expression that gives a truth, as a test -/
theorem tVal {e : DE} {x : Expr} (h : PEok X P m k W e x) (he : ∀ whole, isTrue x X.env whole = (do let v ← whole; standAt x.pos; holding [v] (truthy v))) : PTok X P m k W e x := by
  refine PT.of (pt_val h he) ?_
  rintro σ H Q ⟨ρ, G, A, c⟩
  exact subE A (Ext.refl A.sub) c fun t v G1 H1 p A1 x1 c1 => by
    obtain ⟨fp, r, fr⟩ := p.r
    exact asB_fin r A1.sub x1 c1
theorem bindB (r : R T) (f : Bool → R T) : ((r.bind fun x => (asB x).bind f).bind asB) = (r.bind asB).bind fun p => (f p).bind asB := by
  rw [bind_assoc, bind_assoc]
  congr 1
  funext x
  rw [bind_assoc]
theorem mapB (r : R T) : ((r.bind fun y => (asB y).map fun q => T.fz (.bl q)).bind asB) = r.bind asB := by
  rw [bind_assoc]
  congr 1
  funext y
  rcases asB_ok (t := y) with e | ⟨q, rfl⟩
  · rw [e]; rfl
  · rfl
theorem tAndW {a b : DE} {x y : Expr} {r : List Expr} {pos : Pos} (ha : PTok X P m k W a x) (hb : PWok X P m k W b (.BoolOp .And (y :: r) pos)) : PWok X P m k W (.and a b) (.BoolOp .And (x :: y :: r) pos) := by
  refine PW.of (pw_and ha hb) ?_
  rintro σ H Q ⟨ρ, G, A, c⟩
  unfold ev at c
  rw [bindB] at c
  refine subB A (Ext.refl A.sub) c fun q G1 H1 p A1 x1 c1 => ?_
  cases q with
  | true =>
    rw [if_pos rfl]
    rw [if_pos rfl, mapB] at c1
    exact ⟨ρ, G1, A1, Cn.ext x1 c1⟩
  | false =>
    rw [if_neg Bool.false_ne_true]
    rw [if_neg Bool.false_ne_true] at c1
    exact c1 false G1 H1 ⟨x1, rfl⟩
theorem tOrW {a b : DE} {x y : Expr} {r : List Expr} {pos : Pos} (ha : PTok X P m k W a x) (hb : PWok X P m k W b (.BoolOp .Or (y :: r) pos)) : PWok X P m k W (.or a b) (.BoolOp .Or (x :: y :: r) pos) := by
  refine PW.of (pw_or ha hb) ?_
  rintro σ H Q ⟨ρ, G, A, c⟩
  unfold ev at c
  rw [bindB] at c
  refine subB A (Ext.refl A.sub) c fun q G1 H1 p A1 x1 c1 => ?_
  cases q with
  | true =>
    rw [if_pos rfl]
    rw [if_pos rfl] at c1
    exact c1 true G1 H1 ⟨x1, rfl⟩
  | false =>
    rw [if_neg Bool.false_ne_true]
    rw [if_neg Bool.false_ne_true, mapB] at c1
    exact ⟨ρ, G1, A1, Cn.ext x1 c1⟩
theorem tNotT {a : DE} {x : Expr} {pos : Pos} (ha : PTok X P m k W a x) : PTok X P m k W (.not a) (.UnaryOp .Not x pos) := by
  refine PT.of (pt_not ha) ?_
  rintro σ H Q ⟨ρ, G, A, c⟩
  unfold ev at c
  have e : ((ev (gm P m k) ρ a).bind fun x => (asB x).map fun p => T.fz (.bl (!p))).bind asB = ((ev (gm P m k) ρ a).bind asB).bind fun p => .ok (!p) := by
    rw [bind_assoc, bind_assoc]
    congr 1
    funext x
    rcases asB_ok (t := x) with e | ⟨q, rfl⟩
    · rw [e]; rfl
    · rfl
  rw [e] at c
  exact subB A (Ext.refl A.sub) c fun q G1 H1 p A1 x1 c1 => c1 (!q) G1 H1 ⟨x1, rfl⟩
theorem tCmpT (g : Good X P C m k W) {o : CmpO} {op : CmpOp} {a b : DE} {x y : Expr} {pos : Pos} (h : cmB o op = true) (ha : PEok X P m k W a x) (hb : PEok X P m k W b y) (hs : noSet y = true) : PTok X P m k W (.cmp o a b) (.Compare x [op] [y] pos) := by
  refine PT.of (pt_cmpR (opCmp g.u h) ha hb (noMarks op hs)) ?_
  rintro σ H Q ⟨ρ, G, A, c⟩
  unfold ev at c
  rw [bind_assoc] at c
  refine subE A (Ext.refl A.sub) c fun t v G1 H1 p A1 x1 c1 => ?_
  rw [bind_assoc] at c1
  refine subE A1 x1 c1 fun u w G2 H2 p2 A2 x2 c2 => ?_
  obtain ⟨fp, r, fr⟩ := p.r
  obtain ⟨fq, r2, _⟩ := p2.r
  rcases dCmp_ok (o := o) (t := t) (u := u) with e | ⟨bb, e⟩
  · rw [e] at c2; exact c2.elim
  · rw [e] at c2
    exact ⟨G2, t, u, fp, fq, bb, A2.sub, r.later p2.x, r2, e, bb, rfl, c2 bb G2 H2 ⟨x2, rfl⟩⟩
theorem tChainT (g : Good X P C m k W) {o o' : CmpO} {op op' : CmpOp} {a b d : DE} {x y z : Expr} {pos : Pos} (h : cmB o op = true) (h' : cmB o' op' = true) (ha : PEok X P m k W a x) (hb : PEok X P m k W b y) (hd : PEok X P m k W d z) (hs' : noSet z = true) :
    PTok X P m k W (.chain o o' a b d) (.Compare x [op, op'] [y, z] pos) := by
  refine PT.of (pt_chain (opCmp g.u h) (opCmp g.u h') ha hb hd (by unfold lastMarks; unfold lastMarks; exact noMarks op' hs')) ?_
  rintro σ H Q ⟨ρ, G, A, c⟩
  unfold ev at c
  rw [bind_assoc] at c
  refine subE A (Ext.refl A.sub) c fun t v G1 H1 p A1 x1 c1 => ?_
  rw [bind_assoc] at c1
  refine subE A1 x1 c1 fun u w G2 H2 p2 A2 x2 c2 => ?_
  obtain ⟨fp, r, fr⟩ := p.r
  obtain ⟨fq, r2, _⟩ := p2.r
  rcases dCmp_ok (o := o) (t := t) (u := u) with e | ⟨bb, e⟩
  · rw [e] at c2; exact c2.elim
  · rw [e] at c2
    refine ⟨G2, t, u, fp, fq, bb, A2.sub, r.later p2.x, r2, e, bb, rfl, ?_⟩
    cases bb with
    | false => exact ⟨false, rfl, c2 false G2 H2 ⟨x2, rfl⟩⟩
    | true =>
      have c2 : CnP (lk X) W σ Q G H (((ev (gm P m k) ρ d).bind fun z => (dCmp o' u z).map fun q => T.fz (.bl q)).bind asB) := c2
      rw [bind_assoc] at c2
      refine subE A2 x2 c2 fun u3 w3 G3 H3 p3 A3 x3 c3 => ?_
      obtain ⟨f3, r3, _⟩ := p3.r
      rcases dCmp_ok (o := o') (t := u) (u := u3) with e3 | ⟨b3, e3⟩
      · rw [e3] at c3; exact c3.elim
      · rw [e3] at c3
        exact ⟨G3, u, u3, fq, f3, b3, A3.sub, r2.later p3.x, r3, e3, b3, rfl, c3 b3 G3 H3 ⟨x3, rfl⟩⟩
theorem sIte {d a b : DE} {z x y : Expr} {pos : Pos} (hd : PTok X P m k W d z) (ha : PEok X P m k W a x) (hb : PEok X P m k W b y) : PEok X P m k W (.ite d a b) (.IfExp z x y pos) := by
  refine PE.of (pe_ifExp hd ha hb) ?_
  rintro σ H Q ⟨ρ, G, A, c⟩
  unfold ev at c
  rw [← bind_assoc] at c
  refine subB A (Ext.refl A.sub) c fun q G1 H1 p A1 x1 c1 => ?_
  cases q with
  | true =>
    rw [if_pos rfl]
    rw [if_pos rfl] at c1
    refine ⟨ρ, G1, A1, dSl_fz (Cn.ext x1 c1) ?_⟩
    show (isPl a || isPl b) = true ∨ isPl a = false
    cases isPl a <;> simp
  | false =>
    rw [if_neg Bool.false_ne_true]
    rw [if_neg Bool.false_ne_true] at c1
    refine ⟨ρ, G1, A1, dSl_fz (Cn.ext x1 c1) ?_⟩
    show (isPl a || isPl b) = true ∨ isPl b = false
    cases isPl b <;> simp
/-! ### calls -/
theorem sCall (g : Good X P C m k W) {f : Str} {es : List DE} {xs : List Expr} {p pos : Pos} (hf : hasD P f = true) (hg : glB X.env.scope f = true) (he : mEs (hasD P) C X.N X.env.scope es xs = true) (ha : PAok X P m k W es xs) : PEok X P m k W (.call f es) (.Call (.Name f p) xs [] pos) := by
  obtain ⟨h1, h2, h3⟩ := glB_ok hg
  obtain ⟨df, hdf⟩ := Option.isSome_iff_exists.mp hf
  obtain ⟨fa, fd, ps, hm, hk, hb, hl, F⟩ := g.ln.fns f df hdf
  have fin : ∀ {σ H Q ρ G vs G1 H1} {ts : List T}, PostA (lk X) G H es ts vs G1 H1 → At (lk X) ρ σ G1 H1 → Ext G H G1 H1 → CnE (lk X) W σ (isPl (.call f es)) Q G H ((gm P m k).call f ts) → spF (lk X) P m k f ps.length vs H1 Q (WE W σ) := by
    intro σ H Q ρ G vs G1 H1 ts pa A1 x1 c1
    obtain ⟨fp, rs, _⟩ := pa.r
    have c1' : CnE (lk X) W σ false Q G H (callK P m k f ts) := c1
    have hne : callK P m k f ts ≠ .no := fun z => by rw [z] at c1'; exact c1'
    obtain ⟨df', e1, e2⟩ := callK_len hne
    rw [hdf] at e1
    cases e1
    exact ⟨by rw [rs.length, e2, hl], G1, ts, fp, A1.sub, rs, Cn.wish (Cn.ext x1 c1')⟩
  cases xs with
  | nil =>
    refine PE.of (pe_call0S F g.room h1 hm hk hb (fun σ => passAt g.tk σ) h2) ?_
    rintro σ H Q ⟨ρ, G, A, c⟩
    cases es with
    | cons _ _ => simp [mEs] at he
    | nil =>
      unfold ev at c
      rw [evs] at c
      exact fin (ρ := ρ) ⟨Ext.refl A.sub, [], .nil, fun _ => Fresh.nil⟩ A (Ext.refl A.sub) c
  | cons x xs =>
    cases es with
    | nil => simp [mEs] at he
    | cons e es =>
      have he' := he
      simp only [mEs, Bool.and_eq_true] at he'
      refine PE.of (pe_callS F g.room h1 hm hk hb (fun σ => passAt g.tk σ) ha h2 (star_cons xs _ he'.1.2) (mEs_star he'.2)) ?_
      rintro σ H Q ⟨ρ, G, A, c⟩
      unfold ev at c
      exact subA A (Ext.refl A.sub) c fun ts vs G1 H1 pa A1 x1 c1 => fin pa A1 x1 c1
theorem blt_mem (g : Good X P C m k W) (x : Str) (h : x ∈ (["len", "abs", "int", "tuple", "list", "all", "max", "min", "range", "enumerate", "zip", "isinstance", "bool", "str", "dict"] : List Str)) : X.mg x = none := g.ln.blt x h
theorem sBif (g : Good X P C m k W) {f : Bif} {es : List DE} {xs : List Expr} {p pos : Pos} (hf : bifB f = true) (hg : glB X.env.scope (bifN f) = true) (he : mEs (hasD P) C X.N X.env.scope es xs = true) (ha : PAok X P m k W es xs) : PEok X P m k W (.bif f es) (.Call (.Name (bifN f) p) xs [] pos) := by
  obtain ⟨h1, h2, h3⟩ := glB_ok hg
  have hm : X.mg (bifN f) = none := by
    apply blt_mem g
    cases f <;> first | (exact absurd hf Bool.false_ne_true) | simp [bifN]
  have dno : ∀ {x : Xc} {ts : List T}, dBif f ts ≠ .ex x := by
    intro x ts z
    unfold dBif at z
    split at z <;> first
      | (cases z; done)
      | (unfold R.map dLen at z; split at z <;> first | (cases z; done) | (split at z <;> cases z; done))
      | (split at z <;> cases z; done)
  cases xs with
  | nil =>
    cases es with
    | cons _ _ => simp [mEs] at he
    | nil =>
      refine ⟨fun pins s σ H Q I q => ?_⟩
      obtain ⟨ρ, G, A, c⟩ := q
      unfold ev at c
      rw [evs] at c
      exfalso
      cases f <;> exact c
  | cons x xs =>
    cases es with
    | nil => simp [mEs] at he
    | cons e es =>
      have he' := he
      simp only [mEs, Bool.and_eq_true] at he'
      rcases bif_ok (X := X) g.calm f with ⟨id, hv, hc⟩ | ⟨id, hv, hc⟩ | hno
      · refine PE.of (pe_callB hc h1 hm hv ha h3 h2 (star_cons xs _ he'.1.2) (mEs_star he'.2)) ?_
        rintro σ H Q ⟨ρ, G, A, c⟩
        unfold ev at c
        refine subA A (Ext.refl A.sub) c fun ts vs G1 H1 pa A1 x1 c1 => ?_
        obtain ⟨fp, rs, _⟩ := pa.r
        exact ⟨W, σ, G1, ts, fp, A1.sub, rs, Cn.ext x1 c1⟩
      · refine PE.of (pe_callTy hc h1 hm hv ha h3 h2 (star_cons xs _ he'.1.2) (mEs_star he'.2)) ?_
        rintro σ H Q ⟨ρ, G, A, c⟩
        unfold ev at c
        refine subA A (Ext.refl A.sub) c fun ts vs G1 H1 pa A1 x1 c1 => ?_
        obtain ⟨fp, rs, _⟩ := pa.r
        exact ⟨W, σ, G1, ts, fp, A1.sub, rs, Cn.ext x1 c1⟩
      · exfalso
        cases f <;> first | (exact absurd hf Bool.false_ne_true) | skip
        · have h := hno [.fz (.tup [])]; cases h
        · have h := hno [.fz (.int 0)]; cases h
        · have h := hno [.fz (.int 0)]; cases h
        · have h := hno [.fz (.tup [])]; cases h
        · have h := hno [.fz (.tup [])]; cases h
        · have h := hno [.fz (.lst [])]; cases h
        · have h := hno [.fz (.int 0), .fz (.int 0)]; cases h
        · have h := hno [.fz (.int 0), .fz (.int 0)]; cases h
end
end DP

/-! The evaluator is right: isinstance, what is gone through, comprehensions. -/
namespace DP
open PySem PySem.Spec PyProof.Rows L2
section
variable {X : Cx} {P : Pg} {C : Str → Bool} {m k : Nat} {W : WX}
/-- isinstance of an exception that is held as a value -/
def rIsX (K : PySem.W.Frag) : List V → Hp → VK → Prop := fun xs H Q => ∃ (a D : Addr) (c : V) (u : Value) (b : Bool), xs = [.ref a, c] ∧ H a = some (ExH (.ref D) none a) ∧ ExcC K D ∧ ClsV c u ∧ PySem.W.kitOne K (.ref D) u = some b ∧ Q (.bl b) H
theorem call_isX : CallR X (.builtin "isinstance") (rIsX X.K) := by
  intro pins s σ H xs us Q I r h
  obtain ⟨a, D, c, u, b, rfl, hH, hC, k, e, q⟩ := h
  obtain ⟨u1, u2, rfl, r1, r2⟩ := vals2 r
  have e2 := k.eq r2
  subst e2
  cases r1
  obtain ⟨⟨oe, vs, hg, hz, hv⟩, _⟩ := (show ObjOk X.prog X.w H s.heap a (ExH (.ref D) none a) from I.hok a _ hH)
  have J : PySem.W.InstAt s.heap a oe D none := by
    obtain ⟨oc, od, oda, osl⟩ := oe
    obtain ⟨h1, h2⟩ := hz
    dsimp only at h1 h2 hv
    subst h1 h2 hv
    exact ⟨hg, rfl, rfl, trivial⟩
  exact PySem.W.kia_one (PySem.W.handS_kitx_exc hC.hg hC.hk hC.hs hC.hd hC.ha hC.hn hC.ht hC.hm) I.kIn J e (fun z => nomatch z) fun tk => ⟨.bl b, H, I.kept (t' := tk) fun _ _ z => z, rfl, q⟩
theorem ClsIs.clsV {mg : Str → Option Value} {c : Str} {v : V} {u : Value} (h : ClsIs mg c v u) : ClsV v u := by
  rcases h with ⟨C, rfl, rfl, _⟩ | ⟨n, rfl, rfl, _⟩
  · exact .own C
  · exact .ty n
theorem ClsIs.inj {mg : Str → Option Value} {c : Str} {v v' : V} {u u' : Value} (h : ClsIs mg c v u) (h' : ClsIs mg c v' u') : v = v' ∧ u = u' := by
  rcases h with ⟨C, rfl, rfl, a⟩ | ⟨n, rfl, rfl, a, b⟩ <;> rcases h' with ⟨C', rfl, rfl, a'⟩ | ⟨n', rfl, rfl, a', b'⟩
  · rw [a] at a'; cases a'; exact ⟨rfl, rfl⟩
  · rw [a] at a'; cases a'
  · rw [a] at a'; cases a'
  · rw [b] at b'; cases b'; exact ⟨rfl, rfl⟩
/-- a class named -/
theorem peCls (g : Good X P C m k W) {t : TyN} {n : Str} {pos : Pos} (h : tynB C t n = true) (hg : glB X.env.scope n = true) : ∃ v u, PE X (.Name n pos) (tC v) ∧ ClsV v u ∧ (∀ c, t = .own c → ClsIs X.mg c v u) ∧ ((∀ c, t ≠ .own c) → v = .ty (tyN t) ∧ u = .type (tyN t)) := by
  obtain ⟨h1, h2, h3⟩ := glB_ok hg
  have blt : ∀ (x : Str) (ty : String), n = x → x ∈ (["len", "abs", "int", "tuple", "list", "all", "max", "min", "range", "enumerate", "zip", "isinstance", "bool", "str", "dict"] : List Str) → bootBuiltins x = some (.type ty) → PE X (.Name n pos) (tC (.ty ty)) := by
    intro x ty e hm hb
    subst e
    exact pe_bltn h1 (blt_mem g _ hm) hb rfl h3 h2
  cases t with
  | own c =>
    simp only [tynB, Bool.and_eq_true, beq_iff_eq] at h
    obtain ⟨e, hc⟩ := h
    obtain ⟨v, u, hcl, _⟩ := g.ln.cls c hc
    refine ⟨v, u, ?_, hcl.clsV, fun c' e' => by cases e'; exact hcl, fun z => absurd rfl (z c)⟩
    subst e
    rcases hcl with ⟨Cc, rfl, rfl, hm⟩ | ⟨ty, rfl, rfl, hm, hb⟩
    · exact pe_glob h1 hm rfl h2
    · exact pe_bltn h1 hm hb rfl h3 h2
  | int => exact ⟨_, _, blt "int" "int" (by simpa [tynB] using h) (by simp) (by decide +kernel), .ty _, fun c z => (by cases z), fun _ => ⟨rfl, rfl⟩⟩
  | bool => exact ⟨_, _, blt "bool" "bool" (by simpa [tynB] using h) (by simp) (by decide +kernel), .ty _, fun c z => (by cases z), fun _ => ⟨rfl, rfl⟩⟩
  | str => exact ⟨_, _, blt "str" "str" (by simpa [tynB] using h) (by simp) (by decide +kernel), .ty _, fun c z => (by cases z), fun _ => ⟨rfl, rfl⟩⟩
  | list => exact ⟨_, _, blt "list" "list" (by simpa [tynB] using h) (by simp) (by decide +kernel), .ty _, fun c z => (by cases z), fun _ => ⟨rfl, rfl⟩⟩
  | tuple => exact ⟨_, _, blt "tuple" "tuple" (by simpa [tynB] using h) (by simp) (by decide +kernel), .ty _, fun c z => (by cases z), fun _ => ⟨rfl, rfl⟩⟩
  | dict => exact ⟨_, _, blt "dict" "dict" (by simpa [tynB] using h) (by simp) (by decide +kernel), .ty _, fun c z => (by cases z), fun _ => ⟨rfl, rfl⟩⟩
theorem sIsi (g : Good X P C m k W) {a : DE} {t : TyN} {z : Expr} {n : Str} {p p2 pos : Pos} (hg : glB X.env.scope "isinstance" = true) (hs : noStar z = true) (ht : tynB C t n = true) (hn : glB X.env.scope n = true) (ha : PEok X P m k W a z) :
    PEok X P m k W (.isi a t) (.Call (.Name "isinstance" p) [z, .Name n p2] [] pos) := by
  obtain ⟨h1, h2, h3⟩ := glB_ok hg
  obtain ⟨v, u, hv, hcv, hown, hblt⟩ := peCls (pos := p2) g ht hn
  refine PE.of (pe_callB (CallR.or call_isi call_isX) h1 (blt_mem g _ (by simp)) (by decide +kernel) (pa_cons ha (pa_cons hv pa_nil) (star_cons _ _ hs)) h3 h2 (star_cons _ _ hs) rfl) ?_
  rintro σ H Q ⟨ρ, G, A, c⟩
  unfold ev at c
  refine subE A (Ext.refl A.sub) c fun tt x G1 H1 p1 A1 x1 c1 => ?_
  obtain ⟨fp, r, _⟩ := p1.r
  have rd := RT.read A1.sub r
  show (rIsi X.K [x, v] H1 Q) ∨ (rIsX X.K [x, v] H1 Q)
  cases e : dIsi (gm P m k).sub (er tt) t with
  | no => rw [e] at c1; exact c1.elim
  | ex y =>
    exfalso
    unfold dIsi at e
    split at e
    · split at e
      · cases q : (gm P m k).sub _ _ <;> rw [q] at e <;> cases e
      · cases e
      · cases e
    all_goals (split at e <;> cases e)
  | ok b =>
    rw [e] at c1
    have fin : Q (.bl b) H1 := Cn.fz A1.sub (Cn.ext x1 c1) (.bl b)
    cases hx : isExc (er tt) with
    | false =>
      by_cases hown' : ∃ c, t = .own c
      · obtain ⟨cc, rfl⟩ := hown'
        unfold dIsi at e
        simp only at e
        split at e
        · rename_i q; rw [q] at hx; simp [isExc] at hx
        · rename_i q
          cases e
          rw [q] at rd
          have ex := rd.non_inv
          subst ex
          have hc : C cc = true := by
            simp only [tynB, Bool.and_eq_true] at ht
            exact ht.2
          obtain ⟨v', u', hcl, hk⟩ := g.ln.cls cc hc
          obtain ⟨e1, e2⟩ := hcl.inj (hown cc rfl)
          subst e1 e2
          exact .inl ⟨_, _, _, _, _, rfl, hcv, .base .non, hk, fin⟩
        · cases e
      · have hn' : ∀ c, t ≠ .own c := fun c z => hown' ⟨c, z⟩
        obtain ⟨e1, e2⟩ := hblt hn'
        subst e1 e2
        obtain ⟨ty, h4, h5⟩ := rd.tyx _ _ (isB_ok e hn' hx)
        exact .inl ⟨_, _, _, _, _, rfl, hcv, h4, kit_ty h5, fin⟩
    | true =>
      cases hd : er tt with
      | exc kk fs =>
        rw [hd] at e rd
        by_cases hown' : ∃ c, t = .own c
        · obtain ⟨cc, rfl⟩ := hown'
          cases fs with
          | cons _ _ => simp [dIsi] at e
          | nil =>
            have e' : R.of (P.sub kk cc) = .ok b := e
            obtain ⟨Cc, v', u', hm, hcl, _, hk, hE⟩ := g.ln.sub kk cc b (R.of_is e')
            obtain ⟨e1, e2⟩ := hcl.inj (hown cc rfl)
            subst e1 e2
            cases rd with
            | exc0 hm' hH =>
              rw [hm] at hm'
              cases hm'
              exact .inr ⟨_, _, _, _, _, rfl, hH, hE, hcv, hk, fin⟩
            | excF nz _ _ _ _ => exact absurd rfl nz
        · cases t <;> first | (exact absurd ⟨_, rfl⟩ hown') | (simp [dIsi] at e; done)
      | _ => rw [hd] at hx; simp [isExc] at hx
end
end DP

/-! The evaluator is right: what is gone through, comprehensions. -/
namespace DP
open PySem PySem.Spec PyProof.Rows L2
section
variable {L : Lk} {G H G1 H1 G2 H2 G3 G4 : Hp}
/-- two grounds as one -/
def unite (G G' : Hp) : Hp := fun b => match G b with
  | some o => some o
  | none => G' b
theorem unite_left : Same G (unite G G1) := fun b o e => by unfold unite; rw [e]
theorem unite_right (s : Same G H) (s1 : Same G1 H) : Same G1 (unite G G1) := fun b o e => by
  unfold unite
  cases q : G b with
  | none => exact e
  | some u =>
    have h1 := s b u q
    rw [s1 b o e] at h1
    cases h1
    rfl
theorem Ext.unite {G H G3 G4 H2 : Hp} (x : Ext G H G3 H2) (y : Ext G H G4 H2) : Ext G H (DP.unite G3 G4) H2 where
  g := x.g.trans unite_left
  h := x.h
  sub := fun b o e => by
    unfold DP.unite at e
    cases q : G3 b with
    | none => rw [q] at e; exact y.sub _ _ e
    | some u => rw [q] at e; cases e; exact x.sub _ _ q
  new := fun b o e => by
    unfold DP.unite at e
    cases q : G3 b with
    | none => rw [q] at e; exact y.new _ _ e
    | some u => rw [q] at e; cases e; exact x.new _ _ q
theorem itemsOf_ok {pl : Bool} {t : T} : itemsOf pl t = .no ∨ ∃ ds, itemsOf pl t = .ok ds := by
  unfold itemsOf
  split
  · exact .inr ⟨_, rfl⟩
  · exact .inr ⟨_, rfl⟩
  · exact .inr ⟨_, rfl⟩
  · split
    · exact .inl rfl
    · rename_i ts _
      cases unFz ts with
      | none => exact .inl rfl
      | some ds => exact .inr ⟨_, rfl⟩
  · exact .inl rfl
theorem dRng_ok {ts : List T} : dRng ts = .no ∨ ∃ ds, dRng ts = .ok ds := by
  unfold dRng
  split
  · split
    · exact .inr ⟨_, rfl⟩
    · exact .inl rfl
  · split
    · exact .inr ⟨_, rfl⟩
    · exact .inl rfl
  · exact .inl rfl
end
section
variable {X : Cx} {P : Pg} {C : Str → Bool} {m k : Nat} {W : WX}
abbrev PIok (X : Cx) (P : Pg) (m k : Nat) (W : WX) (e : DE) (tg x : Expr) : Prop := PI X tg x (tI (lk X) (gm P m k) W e)
/-- a thing that is gone through as it is -/
theorem pGen {e : DE} {tg x : Expr} (h : PEok X P m k W e x) (he : ∀ ρ, evi (gm P m k) ρ e = (ev (gm P m k) ρ e).bind (itemsOf (isPl e))) : PIok X P m k W e tg x := by
  refine PI.of (PI.or (pi_list h) (pi_tup h)) ?_
  rintro σ H Rq ⟨ρ, G, A, c⟩
  rw [he] at c
  have fin : ∀ {t v G1 H1}, Post (lk X) G H (isPl e) t v G1 H1 → Cn (lk X) W σ (fun G H => ItP (lk X) G H) Rq G H (itemsOf (isPl e) t) → ∃ a xs, v = .ref a ∧ SqK X.K H1 a xs (kdOf t) ∧ (kdOf t = .l → Rq (Itl X.K a) H1) ∧ (kdOf t = .t → Rq (Itt X.K a) H1) := by
    intro t v G1 H1 p c1
    rcases itemsOf_ok (pl := isPl e) (t := t) with z | ⟨ds, z⟩
    · rw [z] at c1; exact c1.elim
    · rw [z] at c1
      obtain ⟨G2, a, xs, rfl, x2, s2, hq, hr, _⟩ := items_src p z
      refine ⟨a, xs, rfl, sqK_mono x2.sub hq, fun e => ?_, fun e => ?_⟩
      · rw [e] at hq
        exact c1 _ G2 H1 ⟨x2, itw_list hq hr⟩
      · rw [e] at hq
        exact c1 _ G2 H1 ⟨x2, itw_tup hq hr⟩
  cases hd : (match ev (gm P m k) ρ e with | .ok t => kdOf t | _ => .l) with
  | l =>
    refine .inl (subE' A (Ext.refl A.sub) c fun t v G1 H1 e p A1 x1 c1 => ?_)
    rw [e] at hd
    have hd : kdOf t = .l := hd
    obtain ⟨a, xs, r1, r2, r3, r4⟩ := fin p c1
    rw [hd] at r2
    exact ⟨a, r1, ⟨xs, r2⟩, r3 hd⟩
  | t =>
    refine .inr (subE' A (Ext.refl A.sub) c fun t v G1 H1 e p A1 x1 c1 => ?_)
    rw [e] at hd
    have hd : kdOf t = .t := hd
    obtain ⟨a, xs, r1, r2, r3, r4⟩ := fin p c1
    rw [hd] at r2
    exact ⟨a, r1, ⟨xs, r2⟩, r4 hd⟩
theorem evs_len {Γ : Gm} {ρ : Ev} : ∀ {es : List DE} {ts : List T}, evs Γ ρ es = .ok ts → ts.length = es.length
  | [], ts, h => by rw [evs] at h; cases h; rfl
  | e :: es, ts, h => by
    rw [evs] at h
    obtain ⟨t, _, h2⟩ := R.bind_is h
    unfold R.map at h2
    obtain ⟨us, h3, h4⟩ := R.bind_is h2
    cases h4
    rw [List.length_cons, List.length_cons, evs_len h3]
theorem mEs_len {F C : Str → Bool} {N : List Str} {sc : Scope} : ∀ {es : List DE} {xs : List Expr}, mEs F C N sc es xs = true → es.length = xs.length
  | [], [], _ => rfl
  | [], _ :: _, h => by simp [mEs] at h
  | _ :: _, [], h => by simp [mEs] at h
  | e :: es, x :: xs, h => by
    simp only [mEs, Bool.and_eq_true] at h
    rw [List.length_cons, List.length_cons, mEs_len h.2]
theorem pRng1 (g : Good X P C m k W) {es : List DE} {tg a : Expr} {p pos : Pos} (hg : glB X.env.scope "range" = true) (hl : es.length = 1) (hs : noStar a = true) (ha : PAok X P m k W es [a]) : PIok X P m k W (.rng es) tg (.Call (.Name "range" p) [a] [] pos) := by
  obtain ⟨h1, h2, h3⟩ := glB_ok hg
  refine PI.of (pi_range1 h1 (blt_mem g _ (by simp)) ha (star_cons _ _ hs)) ?_
  rintro σ H Rq ⟨ρ, G, A, c⟩
  unfold evi at c
  refine subA' A (Ext.refl A.sub) c fun ts vs G1 H1 e pa A1 x1 c1 => ?_
  have hl2 := (evs_len e).trans hl
  obtain ⟨fp, rs, fr⟩ := pa.r
  clear fr
  unfold dRng at c1
  split at c1
  · split at c1
    · rename_i j hj
      simp only [decide_eq_true_eq] at hj
      cases rs with
      | cons r rr =>
        cases rr
        have e := r.fz_inv.int_inv
        subst e
        exact ⟨_, rfl, hj.1, hj.2, c1 _ G1 H1 ⟨x1, itw_range 0 _⟩⟩
    · exact c1.elim
  · simp at hl2
  · exact c1.elim
theorem pRng2 (g : Good X P C m k W) {es : List DE} {tg a b : Expr} {p pos : Pos} (hg : glB X.env.scope "range" = true) (hl : es.length = 2) (hs : noStar a = true) (hs2 : noStar b = true) (ha : PAok X P m k W es [a, b]) : PIok X P m k W (.rng es) tg (.Call (.Name "range" p) [a, b] [] pos) := by
  obtain ⟨h1, h2, h3⟩ := glB_ok hg
  refine PI.of (pi_range2 h1 (blt_mem g _ (by simp)) ha (by rw [star_cons _ _ hs, star_cons _ _ hs2]; rfl) (star_cons _ _ hs2)) ?_
  rintro σ H Rq ⟨ρ, G, A, c⟩
  unfold evi at c
  refine subA' A (Ext.refl A.sub) c fun ts vs G1 H1 e pa A1 x1 c1 => ?_
  have hl2 := (evs_len e).trans hl
  obtain ⟨fp, rs, fr⟩ := pa.r
  clear fr
  unfold dRng at c1
  split at c1
  · simp at hl2
  · split at c1
    · rename_i i j hj
      simp only [decide_eq_true_eq] at hj
      cases rs with
      | cons r rr =>
        cases rr with
        | cons r2 rr =>
          cases rr
          have e := r.fz_inv.int_inv
          have e2 := r2.fz_inv.int_inv
          subst e e2
          exact ⟨_, _, rfl, hj, c1 _ G1 H1 ⟨x1, itw_range _ _⟩⟩
    · exact c1.elim
  · exact c1.elim
theorem pEnum (g : Good X P C m k W) {a : DE} {elts : List Expr} {kk : Nat} {tpos : Pos} {z : Expr} {p pos : Pos} (hg : glB X.env.scope "enumerate" = true) (hs : noStar z = true) (ha : PEok X P m k W a z) :
    PIok X P m k W (.enum a) (.Tuple elts kk tpos) (.Call (.Name "enumerate" p) [z] [] pos) := by
  obtain ⟨h1, h2, h3⟩ := glB_ok hg
  refine PI.of (pi_enumK h1 (blt_mem g _ (by simp)) (pa_cons ha pa_nil (star_cons _ _ hs)) (star_cons _ _ hs)) ?_
  rintro σ H Rq ⟨ρ, G, A, c⟩
  unfold evi at c
  refine subE A (Ext.refl A.sub) c fun t v G1 H1 p A1 x1 c1 => ?_
  rcases itemsOf_ok (pl := isPl a) (t := t) with e | ⟨ds, e⟩
  · rw [e] at c1; exact c1.elim
  · rw [e] at c1
    obtain ⟨G2, ad, xs, rfl, x2, s2, hq, hr, _⟩ := items_src p e
    exact ⟨ad, xs, kdOf t, rfl, sqK_mono x2.sub hq, c1 _ G2 H1 ⟨x2, itw_enum hq hr⟩⟩
theorem pZip (g : Good X P C m k W) {a b : DE} {elts : List Expr} {kk : Nat} {tpos : Pos} {z u : Expr} {p pos : Pos} (hg : glB X.env.scope "zip" = true) (hs : noStar z = true) (hs2 : noStar u = true) (ha : PEok X P m k W a z) (hb : PEok X P m k W b u) :
    PIok X P m k W (.zip a b) (.Tuple elts kk tpos) (.Call (.Name "zip" p) [z, u] [] pos) := by
  obtain ⟨h1, h2, h3⟩ := glB_ok hg
  refine PI.of (pi_zipK h1 (blt_mem g _ (by simp)) (pa_cons ha (pa_cons hb pa_nil (star_cons _ _ hs2)) (star_cons _ _ hs)) (star_cons _ _ hs) (by rw [star_cons _ _ hs2]; rfl)) ?_
  rintro σ H Rq ⟨ρ, G, A, c⟩
  unfold evi at c
  refine subE A (Ext.refl A.sub) c fun t v G1 H1 p1 A1 x1 c1 => ?_
  refine subE A1 x1 c1 fun t2 v2 G2 H2 p2 A2 x2 c2 => ?_
  rcases itemsOf_ok (pl := isPl a) (t := t) with e | ⟨ds, e⟩
  · rw [e] at c2; exact c2.elim
  · rw [e] at c2
    rcases itemsOf_ok (pl := isPl b) (t := t2) with e2 | ⟨ds2, e2⟩
    · rw [R.bind_ok, e2] at c2; exact c2.elim
    · rw [R.bind_ok, e2] at c2
      obtain ⟨G3, ad, xs, rfl, x3, s3, hq, hr, _⟩ := items_src (p1.later p2.x) e
      obtain ⟨G4, ad2, ys, rfl, x4, s4, hq2, hr2, _⟩ := items_src p2 e2
      have x4' := p1.x.trans x4
      have xx := x3.unite x4'
      have s5 : Same G4 (unite G3 G4) := unite_right x3.sub x4'.sub
      exact ⟨ad, ad2, xs, ys, kdOf t, kdOf t2, rfl, sqK_mono x3.sub hq, sqK_mono x4'.sub hq2,
        c2 _ _ H2 ⟨xx, itw_zip (sqK_mono unite_left hq) (hr.mono unite_left) (sqK_mono s5 hq2) (hr2.mono s5)⟩⟩
end

/-! ### comprehensions -/
theorem noEx_is {α : Type} {r : R α} {a : α} (h : noEx r = .ok a) : r = .ok a := by
  cases r with
  | ok b => exact h
  | ex x => cases h
  | no => cases h
theorem lcGo_ok {f : D → R (Option T)} : ∀ {ds : List D}, (∀ d x, f d ≠ .ex x) → lcGo f ds = .no ∨ ∃ r, lcGo f ds = .ok r
  | [], _ => .inr ⟨[], rfl⟩
  | d :: ds, h => by
    rw [lcGo]
    cases e : f d with
    | ex x => exact absurd e (h d x)
    | no => exact .inl rfl
    | ok o =>
      rcases lcGo_ok (ds := ds) h with q | ⟨r, q⟩
      · rw [q]; exact .inl rfl
      · rw [q]; exact .inr ⟨_, rfl⟩
theorem noEx_ne {α : Type} {r : R α} {x : Xc} : noEx r ≠ .ex x := by
  cases r <;> intro h <;> cases h
/-- the heap without the new list -/
def cut (H : Hp) (D : Addr) : Hp := fun b => if b = D then none else H b
theorem cut_upd {H : Hp} {D : Addr} {o : HO} : upd (cut H D) D o = upd H D o := by
  funext b
  by_cases e : b = D
  · rw [e, upd_same, upd_same]
  · rw [upd_ne e, upd_ne e, cut, if_neg e]
theorem cut_at {H : Hp} {D : Addr} : cut H D D = none := if_pos rfl
theorem cut_ne {H : Hp} {D b : Addr} (e : b ≠ D) : cut H D b = H b := if_neg e
section
variable {L : Lk} {G H G1 H1 G2 H2 : Hp}
theorem Ext.cut {D : Addr} (x : Ext G H G1 H1) (n : H D = none) (n1 : G1 D = none) : Ext G H G1 (DP.cut H1 D) where
  g := x.g
  h := fun b o e => by rw [cut_ne (ne_of_none e n)]; exact x.h _ _ e
  sub := fun b o e => by rw [cut_ne (ne_of_none e n1)]; exact x.sub _ _ e
  new := x.new
end
end DP

/-! The evaluator is right: comprehensions, all expressions. -/
namespace DP
open PySem PySem.Spec PyProof.Rows L2
theorem PTs.of {X : Cx} {e : List Expr} {t t' : TT} (h : PTs X e t) (k : ∀ σ H Q, t' σ H Q → t σ H Q) : PTs X e t' := ⟨fun pins s σ H Q I q => h.run pins s σ H Q I (k σ H Q q)⟩
/-- no exception is wished for -/
def W0 : WX := fun _ _ _ _ => False
def tCl (L : Lk) (Γ : Gm) (W : WX) (c : Option DE) : TT := fun σ H Q => ∃ ρ G, At L ρ σ G H ∧ CnP L W σ Q G H (evc Γ ρ c)
theorem At.wipe {L : Lk} {ρ : Ev} {σ : L2.St} {G H : Hp} (a : At L ρ σ G H) (vs : List Nat) : At L (wipeE ρ vs) (L2.wipe σ vs) G H := by
  obtain ⟨G0, H0, io, f, I⟩ := a
  obtain ⟨g, J⟩ := I.wipe vs
  exact ⟨G0, H0, io, g, J⟩
section
variable {X : Cx} {P : Pg} {C : Str → Bool} {m k : Nat} {W : WX}
theorem Good.blk (g : Good X P C m k W) (s : Shared) (H : Hp) (scope : Scope) (cenv : Env) (fp : List Addr) : Good (X.blk s H scope cenv fp) P C m k W0 :=
  ⟨g.nd, g.calm, takes0, g.room, g.ln⟩
theorem drop_cons {α : Type} {l : List α} {i : Nat} {x : α} (h : l[i]? = some x) : l.drop i = x :: l.drop (i + 1) := by
  obtain ⟨hi, e⟩ := List.getElem?_eq_some_iff.mp h
  rw [List.drop_eq_getElem_cons hi, e]
theorem sLc (g : Good X P C m k W) {gt : Tg} {it e : DE} {c : Option DE} {vs : List Nat} {elt tg iter : Expr} {ifs : List Expr} {scope : Scope} {pos : Pos}
    (hi : PIok X P m k W it tg iter) (hns : noSet iter = true) (hb : blkC X.N X.env.scope scope (vs.map fun v => (X.N.getD v "", v)) = true)
    (hv : (gSl gt).all (fun i => decide (i ∈ vs)) = true) :
    (∀ (s : Shared) (H : Hp) (A : Addr) (cl : List (Str × Addr)) (fp : List Addr), PTs (X.blk s H scope (compEnvC scope cl A X.env) fp) ifs (tCl (lk X) (gm P m k) W0 c)) →
    (∀ (s : Shared) (H : Hp) (A : Addr) (cl : List (Str × Addr)) (fp : List Addr), PE (X.blk s H scope (compEnvC scope cl A X.env) fp) elt (tE (lk X) (gm P m k) W0 e)) →
    ∀ σ H Q, tE (lk X) (gm P m k) W (.lc gt it c e vs) σ H Q → tLc (tI (lk X) (gm P m k) W it) (tG (lk X) gt) (tCl (lk X) (gm P m k) W0 c) (tE (lk X) (gm P m k) W0 e) ((vs.map fun v => (X.N.getD v "", v)).map (·.2)) σ H Q := by
  intro ht he σ H Q ⟨ρ, G, A, cc⟩
  have hvs : ((vs.map fun v => (X.N.getD v "", v)).map (·.2)) = vs := by
    rw [List.map_map]
    exact List.map_id' vs
  rw [hvs]
  unfold ev at cc
  refine ⟨ρ, G, A, sub A (Ext.refl A.sub) cc (fun p => p.x) fun ds J G1 H1 p A1 x1 c1 => ?_⟩
  intro D hD
  generalize hF : (fun d => noEx (match bindT gt (.fz d) (wipeE ρ vs) with
      | none => .no
      | some ρ' => (evc (gm P m k) ρ' c).bind fun p => if p then (ev (gm P m k) ρ' e).bind fun x => if sto e x then .ok (some x) else .no else .ok none)) = F at c1
  have hF' : ∀ d, F d = noEx (match bindT gt (.fz d) (wipeE ρ vs) with
      | none => .no
      | some ρ' => (evc (gm P m k) ρ' c).bind fun p => if p then (ev (gm P m k) ρ' e).bind fun x => if sto e x then .ok (some x) else .no else .ok none) := fun d => by rw [← hF]
  have hne : ∀ d x, F d ≠ .ex x := fun d x z => noEx_ne ((hF' d).symm.trans z)
  rcases lcGo_ok (ds := ds) hne with z | ⟨r, z⟩
  · rw [z] at c1; exact c1.elim
  rw [z] at c1
  simp only [R.bind_ok] at c1
  split at c1
  · rename_i hr
    obtain ⟨Gd, Y, w, hgd, hy⟩ := p.w
    have hG1D : G1 D = none := A1.sub.free hD
    refine lc_it w (fun i H => ∃ G' K acc xs f r', H = upd K D (.lst acc) ∧ K D = none ∧ Ext G1 H1 G' K ∧ RTs (lk X) G' K acc xs f ∧ Fresh H1 G' f ∧ lcGo F (ds.drop i) = .ok r' ∧ r = xs ++ r')
      ⟨G1, H1, [], [], [], r, rfl, hD, Ext.refl A1.sub, .nil, Fresh.nil, by rw [List.drop_zero]; exact z, rfl⟩ ?_ ?_ ?_
    · rintro i H _ ⟨G', K, acc, xs, f, r', rfl, kD, x, _⟩
      exact hgd _ fun b o e => by
        have h1 := x.sub b o (x.g b o e)
        rw [upd_ne (ne_of_none h1 kD)]; exact h1
    · rintro i x H H' hlt ⟨G', K, acc, xs, f, r', rfl, kD, xt, hrt, hfr, hgo, hre⟩ y
      have xo : Ext G' K G' (upd K D (.lst acc)) := Ext.own xt.sub kD
      have x2 := xt.trans xo
      obtain ⟨d, hd⟩ : ∃ d, ds[i]? = some d := ⟨_, List.getElem?_eq_getElem hlt⟩
      obtain ⟨G2, x3, rd⟩ := hy i _ G' x H' d xt.g x2.sub y hd
      rw [drop_cons hd, lcGo] at hgo
      obtain ⟨o, ho, hgo⟩ := R.bind_is hgo
      unfold R.map at hgo
      obtain ⟨r2, hgo2, hr2⟩ := R.bind_is hgo
      rw [hF'] at ho
      have ho := noEx_is ho
      have AW := (A1.ext (x2.trans x3)).wipe vs
      obtain ⟨G0, H0, io, fI, I⟩ := AW
      cases hbt : bindT gt (.fz d) (wipeE ρ vs) with
      | none => rw [hbt] at ho; cases ho
      | some ρ' =>
        rw [hbt] at ho
        have ho : (evc (gm P m k) ρ' c).bind (fun p => if p then (ev (gm P m k) ρ' e).bind fun x => if sto e x then .ok (some x) else .no else .ok none) = .ok o := ho
        refine ⟨G0, H0, io, fI, wipeE ρ vs, G2, d, ρ', I, rd, hbt, fun σ2 f2 I2 hl hs => ⟨?_, ?_⟩⟩
        · refine wipe_same (by rw [hl, wipe_length]) fun j hj => ?_
          rw [hs j fun z => hj ?_, wipe_get, if_neg hj]
          have := List.all_eq_true.mp hv j z
          simpa using this
        · have A2 : At (lk X) ρ' σ2 G2 H' := ⟨_, _, _, _, I2⟩
          obtain ⟨q, hq, ho⟩ := R.bind_is ho
          -- the new list is there, and what was made
          have step : ∀ {G4 H4 : Hp}, Ext G2 H' G4 H4 → ∀ {t : T} {v : V} {fy : List Addr}, RT (lk X) G4 H4 v t fy → Fresh H' G4 fy → o = some t →
              H4 D = some (.lst acc) ∧ acc.length < sizeLine ∧ ∃ G' K acc' xs f r', upd H4 D (.lst (acc ++ [v])) = upd K D (.lst acc') ∧ K D = none ∧ Ext G1 H1 G' K ∧ RTs (lk X) G' K acc' xs f ∧ Fresh H1 G' f ∧ lcGo F (ds.drop (i + 1)) = .ok r' ∧ r = xs ++ r' := by
            intro G4 H4 x4 t v fy rt fr eo
            have xa : Ext G' (upd K D (.lst acc)) G4 H4 := x3.trans x4
            have xb : Ext G1 H1 G4 H4 := x2.trans xa
            have hD4 : H4 D = some (.lst acc) := xa.h _ _ upd_same
            have gD : G' D = none := xt.sub.free kD
            have gD4 : G4 D = none := xa.outG upd_same gD
            have hlen : acc.length = xs.length := hrt.length
            have e2 : r = xs ++ t :: r2 := by
              rw [hre]
              rw [eo] at hr2
              cases hr2
              rfl
            refine ⟨hD4, by rw [e2, List.length_append, List.length_cons] at hr; omega, G4, cut H4 D, acc ++ [v], xs ++ [t], f ++ fy, r2, by rw [cut_upd], cut_at, xb.cut hD gD4, ?_, ?_, hgo2, by rw [e2, List.append_assoc]; rfl⟩
            · have nf : ∀ a ∈ f, a ≠ D := fun a ha q => by
                obtain ⟨o, q2⟩ := hrt.there a ha
                rw [q, kD] at q2; cases q2
              have h1 : RTs (lk X) G4 (cut H4 D) acc xs f := hrt.mono xa.g fun a ha => by
                obtain ⟨o, q2⟩ := hrt.there a ha
                rw [cut_ne (nf a ha), q2]
                exact xa.h _ _ (by rw [upd_ne (nf a ha)]; exact q2)
              have h2 : RT (lk X) G4 (cut H4 D) v t fy := rt.mono (Same.refl _) fun a ha => cut_ne fun q => by
                have := (fr.2 a ha).1
                rw [q, x3.h _ _ upd_same] at this
                cases this
              have h3 := h1.append (RTs.cons h2 .nil)
              rw [List.append_nil] at h3
              exact h3
            · refine ⟨List.nodup_append.mpr ⟨hfr.1, fr.1, fun a ha b hb q => ?_⟩, fun a ha => ?_⟩
              · subst q
                obtain ⟨o, q2⟩ := hrt.there a ha
                have n := (fr.2 a hb).1
                rw [x3.h _ _ (xo.h _ _ q2)] at n
                cases n
              · rcases List.mem_append.mp ha with z | z
                · obtain ⟨o, q2⟩ := hrt.there a z
                  exact ⟨(hfr.2 a z).1, (xo.trans xa).outG q2 (hfr.2 a z).2⟩
                · exact ⟨(x2.trans x3).h.free (fr.2 a z).1, (fr.2 a z).2⟩
          refine ⟨ρ', G2, A2, ?_⟩
          rw [hq]
          intro b G3 H3 ⟨x3', eb⟩
          subst eb
          have A3 := A2.ext x3'
          cases q with
          | true =>
            rw [if_pos rfl]
            rw [if_pos rfl] at ho
            obtain ⟨t, ht', ho⟩ := R.bind_is ho
            by_cases hs' : sto e t = true
            · rw [if_pos hs'] at ho
              cases ho
              refine ⟨ρ', G3, A3, ?_⟩
              rw [ht']
              intro v G4 H4 p4
              obtain ⟨fy, rt, fr⟩ := Post.fresh p4 hs'
              obtain ⟨s1, s2, s3⟩ := step (x3'.trans p4.x) rt (Fresh.up x3' fr) rfl
              exact ⟨acc, s1, s2, s3⟩
            · rw [if_neg hs'] at ho; cases ho
          | false =>
            rw [if_neg Bool.false_ne_true]
            rw [if_neg Bool.false_ne_true] at ho
            cases ho
            have e2 : r2 = r' := by injection hr2
            have xa : Ext G' (upd K D (.lst acc)) G3 H3 := x3.trans x3'
            have xb : Ext G1 H1 G3 H3 := x2.trans xa
            have hD4 : H3 D = some (.lst acc) := xa.h _ _ upd_same
            have gD4 : G3 D = none := xa.outG upd_same (xt.sub.free kD)
            have nf : ∀ a ∈ f, a ≠ D := fun a ha q => by
              obtain ⟨o, q2⟩ := hrt.there a ha
              rw [q, kD] at q2; cases q2
            refine ⟨G3, cut H3 D, acc, xs, f, r2, ?_, cut_at, xb.cut hD gD4, ?_, ⟨hfr.1, fun a ha => ?_⟩, hgo2, by rw [e2]; exact hre⟩
            · rw [cut_upd]
              funext b
              by_cases q : b = D
              · rw [q, upd_same, hD4]
              · rw [upd_ne q]
            · exact hrt.mono xa.g fun a ha => by
                obtain ⟨o, q2⟩ := hrt.there a ha
                rw [cut_ne (nf a ha), q2]
                exact xa.h _ _ (by rw [upd_ne (nf a ha)]; exact q2)
            · obtain ⟨o, q2⟩ := hrt.there a ha
              exact ⟨(hfr.2 a ha).1, (xo.trans xa).outG q2 (hfr.2 a ha).2⟩
    · rintro H ⟨G', K, acc, xs, f, r', rfl, kD, xt, hrt, hfr, hgo, hre⟩
      rw [List.drop_length, lcGo] at hgo
      cases hgo
      rw [List.append_nil] at hre
      subst hre
      have xo : Ext G' K G' (upd K D (.lst acc)) := Ext.own xt.sub kD
      have nf : ∀ a ∈ f, a ≠ D := fun a ha q => by
        obtain ⟨o, q2⟩ := hrt.there a ha
        rw [q, kD] at q2; cases q2
      refine c1 (.ref D) G' (upd K D (.lst acc)) ⟨x1.trans (xt.trans xo), D :: f, .lst upd_same (hrt.mono (Same.refl _) fun a ha => upd_ne (nf a ha)), .inr ⟨List.nodup_cons.mpr ⟨fun q => nf D q rfl, hfr.1⟩, fun a ha => ?_⟩⟩
      rcases List.mem_cons.mp ha with q | q
      · subst q
        exact ⟨x1.h.free hD, xt.sub.free kD⟩
      · exact ⟨x1.h.free (hfr.2 a q).1, (hfr.2 a q).2⟩
  · exact c1.elim
end
end DP

/-! The evaluator is right: all expressions. -/
namespace DP
open PySem PySem.Spec PyProof.Rows L2
section
variable {X : Cx} {P : Pg} {C : Str → Bool} {m k : Nat} {W : WX}
theorem pt_ifx {c a b : Expr} {tc ta tb : TT} {pos : Pos} (hc : PT X c tc) (ha : PT X a ta) (hb : PT X b tb) : PT X (.IfExp c a b pos) (fun σ H Q => tc σ H fun q H1 => if q = true then ta σ H1 Q else tb σ H1 Q) := by
  refine ⟨fun pins s σ H Q I h => ?_⟩
  show wpAny _ X.A (do if ← isTrue c X.env (eval c X.env) then isTrue a X.env (eval a X.env) else isTrue b X.env (eval b X.env)) _ X.xe s
  refine wpAny_bind (thn (hc.run pins s σ H _ I h) fun q s1 ⟨H1, I1, q1⟩ => ?_)
  cases q with
  | true => exact ha.run pins s1 σ H1 Q I1 q1
  | false => exact hb.run pins s1 σ H1 Q I1 q1
theorem pt_of_pw {e : Expr} {t : TT} (h : PW X e t) : PT X e t := ⟨fun pins s σ H Q I q => h.run _ pins s σ H Q I q⟩
theorem tIte {d a b : DE} {z x y : Expr} {pos : Pos} (hd : PTok X P m k W d z) (ha : PTok X P m k W a x) (hb : PTok X P m k W b y) : PTok X P m k W (.ite d a b) (.IfExp z x y pos) := by
  refine PT.of (pt_ifx hd ha hb) ?_
  rintro σ H Q ⟨ρ, G, A, c⟩
  unfold ev at c
  rw [bindB] at c
  refine subB A (Ext.refl A.sub) c fun q G1 H1 p A1 x1 c1 => ?_
  cases q with
  | true =>
    rw [if_pos rfl]
    rw [if_pos rfl] at c1
    exact ⟨ρ, G1, A1, Cn.ext x1 c1⟩
  | false =>
    rw [if_neg Bool.false_ne_true]
    rw [if_neg Bool.false_ne_true] at c1
    exact ⟨ρ, G1, A1, Cn.ext x1 c1⟩
/-- all of an expression: as a value, as a test -/
structure OkE (P : Pg) (C : Str → Bool) (m k : Nat) (e : DE) : Prop where
  v : ∀ (X : Cx) (W : WX), Good X P C m k W → ∀ x, mE (hasD P) C X.N X.env.scope e x = true → PEok X P m k W e x
  t : ∀ (X : Cx) (W : WX), Good X P C m k W → ∀ x, mE (hasD P) C X.N X.env.scope e x = true → PTok X P m k W e x
  i : ∀ (X : Cx) (W : WX), Good X P C m k W → ∀ tg x, mI (hasD P) C X.N X.env.scope e tg x = true → PIok X P m k W e tg x
def OkO (P : Pg) (C : Str → Bool) (m k : Nat) : Option DE → Prop
  | none => True
  | some e => OkE P C m k e
theorem bop_one {Q : Expr → Prop} {op : BoolOp} : True := trivial
/-- the default way of a test -/
theorem tDef {e : DE} (hv : ∀ (X : Cx) (W : WX), Good X P C m k W → ∀ x, mE (hasD P) C X.N X.env.scope e x = true → PEok X P m k W e x)
    (hx : ∀ (F : Str → Bool) (N : List Str) (sc : Scope) (x : Expr), mE F C N sc e x = true → (match x with | .BoolOp _ _ _ => False | .Compare _ _ _ _ => False | .IfExp _ _ _ _ => False | .UnaryOp .Not _ _ => False | _ => True)) :
    ∀ (X : Cx) (W : WX), Good X P C m k W → ∀ x, mE (hasD P) C X.N X.env.scope e x = true → PTok X P m k W e x := by
  intro X W g x h
  have hq := hx _ _ _ _ h
  refine tVal (hv X W g x h) ?_
  cases x <;> first | (exact fun _ => rfl) | (exact hq.elim) | skip
  all_goals (rename_i op _ _; cases op <;> first | (exact fun _ => rfl) | (exact hq.elim))
theorem noI {e : DE} (h : ∀ F N sc tg x, mI F C N sc e tg x = false) : ∀ (X : Cx) (W : WX), Good X P C m k W → ∀ tg x, mI (hasD P) C X.N X.env.scope e tg x = true → PIok X P m k W e tg x := by
  intro X W g tg x hm
  rw [h] at hm; cases hm
theorem okVar (i : Nat) : OkE P C m k (.var i) := by
  have hv : ∀ (X : Cx) (W : WX), Good X P C m k W → ∀ x, mE (hasD P) C X.N X.env.scope (.var i) x = true → PEok X P m k W (.var i) x := fun X W g x h => sVar g h
  refine ⟨hv, tDef hv fun F N sc x h => ?_, fun X W g tg x h => ?_⟩
  · unfold mE at h; split at h <;> first | trivial | cases h
  · refine pGen (hv X W g x ?_) fun ρ => ?_
    · unfold mI at h; unfold mE; exact h
    · rw [evi, ev]
      split <;> rfl
theorem okInt (i : Int) : OkE P C m k (.int i) := by
  have hv : ∀ (X : Cx) (W : WX), Good X P C m k W → ∀ x, mE (hasD P) C X.N X.env.scope (.int i) x = true → PEok X P m k W (.int i) x := fun X W g x h => by
    unfold mE at h; split at h
    · have := of_decide_eq_true h; subst this
      exact sConst pe_int (fun _ => rfl) fun _ => .int _
    · cases h
  exact ⟨hv, tDef hv fun F N sc x h => (by unfold mE at h; split at h <;> first | trivial | cases h), noI fun _ _ _ _ _ => rfl⟩
theorem okBl (i : Bool) : OkE P C m k (.bl i) := by
  have hv : ∀ (X : Cx) (W : WX), Good X P C m k W → ∀ x, mE (hasD P) C X.N X.env.scope (.bl i) x = true → PEok X P m k W (.bl i) x := fun X W g x h => by
    unfold mE at h; split at h
    · have := of_decide_eq_true h; subst this
      exact sConst pe_bl (fun _ => rfl) fun _ => .bl _
    · cases h
  exact ⟨hv, tDef hv fun F N sc x h => (by unfold mE at h; split at h <;> first | trivial | cases h), noI fun _ _ _ _ _ => rfl⟩
theorem okNon : OkE P C m k .non := by
  have hv : ∀ (X : Cx) (W : WX), Good X P C m k W → ∀ x, mE (hasD P) C X.N X.env.scope .non x = true → PEok X P m k W .non x := fun X W g x h => by
    unfold mE at h; split at h
    · exact sConst pe_non (fun _ => rfl) fun _ => .non
    · cases h
  exact ⟨hv, tDef hv fun F N sc x h => (by unfold mE at h; split at h <;> first | trivial | cases h), noI fun _ _ _ _ _ => rfl⟩
theorem okStr (i : Str) : OkE P C m k (.str i) := by
  have hv : ∀ (X : Cx) (W : WX), Good X P C m k W → ∀ x, mE (hasD P) C X.N X.env.scope (.str i) x = true → PEok X P m k W (.str i) x := fun X W g x h => by
    unfold mE at h; split at h
    · have := of_decide_eq_true h; subst this
      exact sConst pe_str (fun _ => rfl) fun _ => .str _
    · cases h
  exact ⟨hv, tDef hv fun F N sc x h => (by unfold mE at h; split at h <;> first | trivial | cases h), noI fun _ _ _ _ _ => rfl⟩
theorem okGlob (n : Str) : OkE P C m k (.glob n) := by
  have hv : ∀ (X : Cx) (W : WX), Good X P C m k W → ∀ x, mE (hasD P) C X.N X.env.scope (.glob n) x = true → PEok X P m k W (.glob n) x := fun X W g x h => sGlob g h
  exact ⟨hv, tDef hv fun F N sc x h => (by unfold mE at h; split at h <;> first | trivial | cases h), noI fun _ _ _ _ _ => rfl⟩
theorem okArgs {es : List DE} (he : ∀ e ∈ es, OkE P C m k e) (X : Cx) (W : WX) (g : Good X P C m k W) (xs : List Expr) (h : mEs (hasD P) C X.N X.env.scope es xs = true) : PAok X P m k W es xs :=
  sArgs es xs h fun e hm x hx => (he e hm).v X W g x hx
theorem okOpt {o : Option DE} (he : OkO P C m k o) (X : Cx) (W : WX) (g : Good X P C m k W) (x : Option Expr) (h : mO (hasD P) C X.N X.env.scope o x = true) : PO X x (tO (lk X) (gm P m k) W o) := by
  cases o with
  | none =>
    cases x with
    | some _ => simp [mO] at h
    | none =>
      refine PO.of po_none ?_
      rintro σ H Q ⟨ρ, G, A, c⟩
      rw [evo] at c
      exact c none G H ⟨Ext.refl A.sub, rfl⟩
  | some e =>
    cases x with
    | none => simp [mO] at h
    | some x =>
      rw [mO] at h
      have hp := (show OkE P C m k e from he).v X W g x h
      refine PO.of (po_some hp) ?_
      rintro σ H Q ⟨ρ, G, A, c⟩
      rw [evo] at c
      refine subE A (Ext.refl A.sub) c fun t v G1 H1 p A1 x1 c1 => ?_
      obtain ⟨fp, r, fr⟩ := p.r
      split at c1
      · have e := r.fz_inv.int_inv
        exact ⟨_, e, c1 _ G1 H1 ⟨x1, rfl⟩⟩
      · exact c1.elim
theorem okCl {o : Option DE} (he : OkO P C m k o) (X : Cx) (W : WX) (g : Good X P C m k W) (x : List Expr) (h : mC (hasD P) C X.N X.env.scope o x = true) : PTs X x (tCl (lk X) (gm P m k) W o) := by
  cases o with
  | none =>
    cases x with
    | cons _ _ => simp [mC] at h
    | nil =>
      refine PTs.of pts_nil ?_
      rintro σ H Q ⟨ρ, G, A, c⟩
      rw [evc] at c
      exact c true G H ⟨Ext.refl A.sub, rfl⟩
  | some e =>
    cases x with
    | nil => simp [mC] at h
    | cons x xs =>
      cases xs with
      | cons _ _ => simp [mC] at h
      | nil =>
        rw [mC] at h
        refine PTs.of (pts_one ((show OkE P C m k e from he).t X W g x h)) ?_
        rintro σ H Q ⟨ρ, G, A, c⟩
        rw [evc] at c
        exact ⟨ρ, G, A, c⟩
theorem okTup {es : List DE} (he : ∀ e ∈ es, OkE P C m k e) : OkE P C m k (.tup es) := by
  have hv : ∀ (X : Cx) (W : WX), Good X P C m k W → ∀ x, mE (hasD P) C X.N X.env.scope (.tup es) x = true → PEok X P m k W (.tup es) x := fun X W g x h => by
    unfold mE at h; split at h
    · exact sTup (okArgs he X W g _ h)
    · cases h
  refine ⟨hv, tDef hv fun F N sc x h => (by unfold mE at h; split at h <;> first | trivial | cases h), fun X W g tg x h => ?_⟩
  refine pGen (hv X W g x ?_) fun ρ => ?_
  · unfold mI at h; unfold mE; exact h
  · rw [evi, ev, bind_assoc]
    congr 1
    funext ts
    split
    · cases hu : unFz ts with
      | some ds => rfl
      | none => cases stos es ts <;> rfl
    · rfl
theorem okLst {es : List DE} (he : ∀ e ∈ es, OkE P C m k e) : OkE P C m k (.lst es) := by
  have hv : ∀ (X : Cx) (W : WX), Good X P C m k W → ∀ x, mE (hasD P) C X.N X.env.scope (.lst es) x = true → PEok X P m k W (.lst es) x := fun X W g x h => by
    unfold mE at h; split at h
    · exact sLst (okArgs he X W g _ h)
    · cases h
  refine ⟨hv, tDef hv fun F N sc x h => (by unfold mE at h; split at h <;> first | trivial | cases h), fun X W g tg x h => ?_⟩
  refine pGen (hv X W g x ?_) fun ρ => ?_
  · unfold mI at h; unfold mE; exact h
  · rw [evi, ev, bind_assoc]
    congr 1
    funext ts
    split
    · cases stos es ts <;> rfl
    · rfl
theorem okIx {a b : DE} (ha : OkE P C m k a) (hb : OkE P C m k b) : OkE P C m k (.ix a b) := by
  have hv : ∀ (X : Cx) (W : WX), Good X P C m k W → ∀ x, mE (hasD P) C X.N X.env.scope (.ix a b) x = true → PEok X P m k W (.ix a b) x := fun X W g x h => by
    unfold mE at h; split at h
    · simp only [Bool.and_eq_true] at h
      exact sIx g (ha.v X W g _ h.1.1) (hb.v X W g _ h.1.2) h.2
    · cases h
  refine ⟨hv, tDef hv fun F N sc x h => (by unfold mE at h; split at h <;> first | trivial | cases h), fun X W g tg x h => ?_⟩
  refine pGen (hv X W g x ?_) fun ρ => ?_
  · unfold mI at h; unfold mE; exact h
  · rw [evi, ev, bind_assoc]
    congr 1
    funext t
    rw [bind_assoc]
    rfl
theorem okSl {a : DE} {lo hi : Option DE} (ha : OkE P C m k a) (hl : OkO P C m k lo) (hh : OkO P C m k hi) : OkE P C m k (.sl a lo hi) := by
  have hv : ∀ (X : Cx) (W : WX), Good X P C m k W → ∀ x, mE (hasD P) C X.N X.env.scope (.sl a lo hi) x = true → PEok X P m k W (.sl a lo hi) x := fun X W g x h => by
    unfold mE at h; split at h
    · simp only [Bool.and_eq_true] at h
      exact sSl (ha.v X W g _ h.1.1) (okOpt hl X W g _ h.1.2) (okOpt hh X W g _ h.2)
    · cases h
  refine ⟨hv, tDef hv fun F N sc x h => (by unfold mE at h; split at h <;> first | trivial | cases h), fun X W g tg x h => ?_⟩
  refine pGen (hv X W g x ?_) fun ρ => ?_
  · unfold mI at h; unfold mE; exact h
  · rw [evi, ev, bind_assoc]
    congr 1
    funext t
    rw [bind_assoc]
    congr 1
    funext l
    rw [bind_assoc]
    rfl
theorem okRev {a : DE} (ha : OkE P C m k a) : OkE P C m k (.rev a) := by
  have hv : ∀ (X : Cx) (W : WX), Good X P C m k W → ∀ x, mE (hasD P) C X.N X.env.scope (.rev a) x = true → PEok X P m k W (.rev a) x := fun X W g x h => by
    unfold mE at h; split at h
    · exact sRev (ha.v X W g _ h)
    · cases h
  exact ⟨hv, tDef hv fun F N sc x h => (by unfold mE at h; split at h <;> first | trivial | cases h), noI fun _ _ _ _ _ => rfl⟩
theorem okBin {o : BinO} {a b : DE} (ha : OkE P C m k a) (hb : OkE P C m k b) : OkE P C m k (.bin o a b) := by
  have hv : ∀ (X : Cx) (W : WX), Good X P C m k W → ∀ x, mE (hasD P) C X.N X.env.scope (.bin o a b) x = true → PEok X P m k W (.bin o a b) x := fun X W g x h => by
    unfold mE at h; split at h
    · simp only [Bool.and_eq_true] at h
      exact sBin g h.1.1 (ha.v X W g _ h.1.2) (hb.v X W g _ h.2)
    · cases h
  refine ⟨hv, tDef hv fun F N sc x h => (by unfold mE at h; split at h <;> first | trivial | cases h), fun X W g tg x h => ?_⟩
  refine pGen (hv X W g x ?_) fun ρ => ?_
  · unfold mI at h; unfold mE; exact h
  · rw [evi, ev, bind_assoc]
    congr 1
    funext t
    rw [bind_assoc]
    rfl
theorem okNeg {a : DE} (ha : OkE P C m k a) : OkE P C m k (.neg a) := by
  have hv : ∀ (X : Cx) (W : WX), Good X P C m k W → ∀ x, mE (hasD P) C X.N X.env.scope (.neg a) x = true → PEok X P m k W (.neg a) x := fun X W g x h => by
    unfold mE at h; split at h
    · exact sNeg (ha.v X W g _ h)
    · cases h
  exact ⟨hv, tDef hv fun F N sc x h => (by unfold mE at h; split at h <;> first | trivial | cases h), noI fun _ _ _ _ _ => rfl⟩
theorem okCmp {o : CmpO} {a b : DE} (ha : OkE P C m k a) (hb : OkE P C m k b) : OkE P C m k (.cmp o a b) := by
  refine ⟨fun X W g x h => ?_, fun X W g x h => ?_, noI fun _ _ _ _ _ => rfl⟩
  · unfold mE at h; split at h
    · simp only [Bool.and_eq_true] at h
      exact sCmp g h.1.1.1 (ha.v X W g _ h.1.1.2) (hb.v X W g _ h.1.2) h.2
    · cases h
  · unfold mE at h; split at h
    · simp only [Bool.and_eq_true] at h
      exact tCmpT g h.1.1.1 (ha.v X W g _ h.1.1.2) (hb.v X W g _ h.1.2) h.2
    · cases h
theorem okChain {o o' : CmpO} {a b c : DE} (ha : OkE P C m k a) (hb : OkE P C m k b) (hc : OkE P C m k c) : OkE P C m k (.chain o o' a b c) := by
  refine ⟨fun X W g x h => ?_, fun X W g x h => ?_, noI fun _ _ _ _ _ => rfl⟩
  · unfold mE at h; split at h
    · simp only [Bool.and_eq_true] at h
      exact sChain g h.1.1.1.1.1.1 h.1.1.1.1.1.2 (ha.v X W g _ h.1.1.1.1.2) (hb.v X W g _ h.1.1.1.2) (hc.v X W g _ h.1.1.2) h.1.2 h.2
    · cases h
  · unfold mE at h; split at h
    · simp only [Bool.and_eq_true] at h
      exact tChainT g h.1.1.1.1.1.1 h.1.1.1.1.1.2 (ha.v X W g _ h.1.1.1.1.2) (hb.v X W g _ h.1.1.1.2) (hc.v X W g _ h.1.1.2) h.2
    · cases h
theorem okAnd {a b : DE} (ha : OkE P C m k a) (hb : OkE P C m k b) (hw : ∀ (X : Cx) (W : WX), Good X P C m k W → ∀ z u r p, mE (hasD P) C X.N X.env.scope b (.BoolOp .And (z :: u :: r) p) = true → PWok X P m k W b (.BoolOp .And (z :: u :: r) p)) : OkE P C m k (.and a b) ∧ ∀ (X : Cx) (W : WX), Good X P C m k W → ∀ xs p, mE (hasD P) C X.N X.env.scope (.and a b) (.BoolOp .And xs p) = true → PWok X P m k W (.and a b) (.BoolOp .And xs p) := by
  have W1 : ∀ (X : Cx) (W : WX), Good X P C m k W → ∀ xs p, mE (hasD P) C X.N X.env.scope (.and a b) (.BoolOp .And xs p) = true → PWok X P m k W (.and a b) (.BoolOp .And xs p) := fun X W g xs p h => by
    unfold mE at h
    split at h
    · rename_i y z q e
      cases e
      simp only [Bool.and_eq_true] at h
      exact tAndW (ha.t X W g _ h.1) (pw_and1 (hb.t X W g _ h.2))
    · rename_i y z u r q e
      cases e
      simp only [Bool.and_eq_true] at h
      exact tAndW (ha.t X W g _ h.1) (hw X W g _ _ _ _ h.2)
    · cases h
  refine ⟨⟨fun X W g x h => ?_, fun X W g x h => ?_, noI fun _ _ _ _ _ => rfl⟩, W1⟩
  · unfold mE at h; split at h
    · simp only [Bool.and_eq_true] at h
      exact sAnd (ha.v X W g _ h.1) (sOne (hb.v X W g _ h.2))
    · simp only [Bool.and_eq_true] at h
      exact sAnd (ha.v X W g _ h.1) (hb.v X W g _ h.2)
    · cases h
  · have h' := h
    unfold mE at h'; split at h'
    · exact pt_of_pw (W1 X W g _ _ h)
    · exact pt_of_pw (W1 X W g _ _ h)
    · cases h'
theorem okOr {a b : DE} (ha : OkE P C m k a) (hb : OkE P C m k b) (hw : ∀ (X : Cx) (W : WX), Good X P C m k W → ∀ z u r p, mE (hasD P) C X.N X.env.scope b (.BoolOp .Or (z :: u :: r) p) = true → PWok X P m k W b (.BoolOp .Or (z :: u :: r) p)) : OkE P C m k (.or a b) ∧ ∀ (X : Cx) (W : WX), Good X P C m k W → ∀ xs p, mE (hasD P) C X.N X.env.scope (.or a b) (.BoolOp .Or xs p) = true → PWok X P m k W (.or a b) (.BoolOp .Or xs p) := by
  have W1 : ∀ (X : Cx) (W : WX), Good X P C m k W → ∀ xs p, mE (hasD P) C X.N X.env.scope (.or a b) (.BoolOp .Or xs p) = true → PWok X P m k W (.or a b) (.BoolOp .Or xs p) := fun X W g xs p h => by
    unfold mE at h
    split at h
    · rename_i y z q e
      cases e
      simp only [Bool.and_eq_true] at h
      exact tOrW (ha.t X W g _ h.1) (pw_or1 (hb.t X W g _ h.2))
    · rename_i y z u r q e
      cases e
      simp only [Bool.and_eq_true] at h
      exact tOrW (ha.t X W g _ h.1) (hw X W g _ _ _ _ h.2)
    · cases h
  refine ⟨⟨fun X W g x h => ?_, fun X W g x h => ?_, noI fun _ _ _ _ _ => rfl⟩, W1⟩
  · unfold mE at h; split at h
    · simp only [Bool.and_eq_true] at h
      exact sOr (ha.v X W g _ h.1) (sOne (hb.v X W g _ h.2))
    · simp only [Bool.and_eq_true] at h
      exact sOr (ha.v X W g _ h.1) (hb.v X W g _ h.2)
    · cases h
  · have h' := h
    unfold mE at h'; split at h'
    · exact pt_of_pw (W1 X W g _ _ h)
    · exact pt_of_pw (W1 X W g _ _ h)
    · cases h'
theorem okNot {a : DE} (ha : OkE P C m k a) : OkE P C m k (.not a) := by
  refine ⟨fun X W g x h => ?_, fun X W g x h => ?_, noI fun _ _ _ _ _ => rfl⟩
  · unfold mE at h; split at h
    · exact sNot (ha.v X W g _ h)
    · cases h
  · unfold mE at h; split at h
    · exact tNotT (ha.t X W g _ h)
    · cases h
theorem okIte {c a b : DE} (hc : OkE P C m k c) (ha : OkE P C m k a) (hb : OkE P C m k b) : OkE P C m k (.ite c a b) := by
  refine ⟨fun X W g x h => ?_, fun X W g x h => ?_, noI fun _ _ _ _ _ => rfl⟩
  · unfold mE at h; split at h
    · simp only [Bool.and_eq_true] at h
      exact sIte (hc.t X W g _ h.1.1) (ha.v X W g _ h.1.2) (hb.v X W g _ h.2)
    · cases h
  · unfold mE at h; split at h
    · simp only [Bool.and_eq_true] at h
      exact tIte (hc.t X W g _ h.1.1) (ha.t X W g _ h.1.2) (hb.t X W g _ h.2)
    · cases h
theorem okCall {f : Str} {es : List DE} (he : ∀ e ∈ es, OkE P C m k e) : OkE P C m k (.call f es) := by
  have hv : ∀ (X : Cx) (W : WX), Good X P C m k W → ∀ x, mE (hasD P) C X.N X.env.scope (.call f es) x = true → PEok X P m k W (.call f es) x := fun X W g x h => by
    unfold mE at h; split at h
    · simp only [Bool.and_eq_true, decide_eq_true_eq] at h
      obtain ⟨⟨⟨rfl, h2⟩, h3⟩, h4⟩ := h
      exact sCall g h2 h3 h4 (okArgs he X W g _ h4)
    · cases h
  refine ⟨hv, tDef hv fun F N sc x h => (by unfold mE at h; split at h <;> first | trivial | cases h), fun X W g tg x h => ?_⟩
  refine pGen (hv X W g x ?_) fun ρ => ?_
  · unfold mI at h; unfold mE; exact h
  · rw [evi, ev, bind_assoc]; rfl
theorem okBif {f : Bif} {es : List DE} (he : ∀ e ∈ es, OkE P C m k e) : OkE P C m k (.bif f es) := by
  have hv : ∀ (X : Cx) (W : WX), Good X P C m k W → ∀ x, mE (hasD P) C X.N X.env.scope (.bif f es) x = true → PEok X P m k W (.bif f es) x := fun X W g x h => by
    unfold mE at h; split at h
    · simp only [Bool.and_eq_true, decide_eq_true_eq] at h
      obtain ⟨⟨⟨rfl, h2⟩, h3⟩, h4⟩ := h
      exact sBif g h2 h3 h4 (okArgs he X W g _ h4)
    · cases h
  refine ⟨hv, tDef hv fun F N sc x h => (by unfold mE at h; split at h <;> first | trivial | cases h), fun X W g tg x h => ?_⟩
  refine pGen (hv X W g x ?_) fun ρ => ?_
  · unfold mI at h; unfold mE; exact h
  · rw [evi, ev, bind_assoc]; rfl
theorem okIsi {a : DE} {t : TyN} (ha : OkE P C m k a) : OkE P C m k (.isi a t) := by
  have hv : ∀ (X : Cx) (W : WX), Good X P C m k W → ∀ x, mE (hasD P) C X.N X.env.scope (.isi a t) x = true → PEok X P m k W (.isi a t) x := fun X W g x h => by
    unfold mE at h; split at h
    · simp only [Bool.and_eq_true, decide_eq_true_eq] at h
      obtain ⟨⟨⟨⟨⟨rfl, h2⟩, h3⟩, h4⟩, h5⟩, h6⟩ := h
      exact sIsi g h2 h4 h5 h6 (ha.v X W g _ h3)
    · cases h
  exact ⟨hv, tDef hv fun F N sc x h => (by unfold mE at h; split at h <;> first | trivial | cases h), noI fun _ _ _ _ _ => rfl⟩
/-- a comprehension, in all its parts -/
theorem lcParts {gt : Tg} {it e : DE} {c : Option DE} {vs : List Nat} (hi : OkE P C m k it) (hc : OkO P C m k c) (he : OkE P C m k e) (X : Cx) (W : WX) (g : Good X P C m k W) {elt tg iter : Expr} {ifs : List Expr} {scope : Scope} {pos : Pos}
    (h : mE (hasD P) C X.N X.env.scope (.lc gt it c e vs) (.ListComp elt [⟨tg, iter, ifs, 0⟩] scope pos) = true) :
    PIok X P m k W it tg iter ∧ noSet iter = true ∧ BlkOk X.N X.env.scope scope (vs.map fun v => (X.N.getD v "", v)) ∧
    (∀ (s : Shared) (H : Hp) (A : Addr) (cl : List (Str × Addr)) (fp : List Addr), PG (X.blk s H scope (compEnvC scope cl A X.env) fp) tg (tG (lk X) gt)) ∧
    (∀ (s : Shared) (H : Hp) (A : Addr) (cl : List (Str × Addr)) (fp : List Addr), PTs (X.blk s H scope (compEnvC scope cl A X.env) fp) ifs (tCl (lk X) (gm P m k) W0 c)) ∧
    (∀ (s : Shared) (H : Hp) (A : Addr) (cl : List (Str × Addr)) (fp : List Addr), PE (X.blk s H scope (compEnvC scope cl A X.env) fp) elt (tE (lk X) (gm P m k) W0 e)) ∧
    ∀ σ H Q, tE (lk X) (gm P m k) W (.lc gt it c e vs) σ H Q → tLc (tI (lk X) (gm P m k) W it) (tG (lk X) gt) (tCl (lk X) (gm P m k) W0 c) (tE (lk X) (gm P m k) W0 e) ((vs.map fun v => (X.N.getD v "", v)).map (·.2)) σ H Q := by
  unfold mE at h
  simp only [Bool.and_eq_true] at h
  obtain ⟨⟨⟨⟨⟨⟨⟨h1, h2⟩, h3⟩, h4⟩, h5⟩, h6⟩, h7⟩, _⟩ := h
  have r1 := hi.i X W g tg iter h1
  have r4 : ∀ (s : Shared) (H : Hp) (A : Addr) (cl : List (Str × Addr)) (fp : List Addr), PG (X.blk s H scope (compEnvC scope cl A X.env) fp) tg (tG (lk X) gt) :=
    fun s H A cl fp => gOk (X := X.blk s H scope (compEnvC scope cl A X.env) fp) (fun _ h => h) g.nd g.calm gt tg h4
  have r5 : ∀ (s : Shared) (H : Hp) (A : Addr) (cl : List (Str × Addr)) (fp : List Addr), PTs (X.blk s H scope (compEnvC scope cl A X.env) fp) ifs (tCl (lk X) (gm P m k) W0 c) :=
    fun s H A cl fp => okCl hc (X.blk s H scope (compEnvC scope cl A X.env) fp) W0 (g.blk _ _ _ _ _) ifs h6
  have r6 : ∀ (s : Shared) (H : Hp) (A : Addr) (cl : List (Str × Addr)) (fp : List Addr), PE (X.blk s H scope (compEnvC scope cl A X.env) fp) elt (tE (lk X) (gm P m k) W0 e) :=
    fun s H A cl fp => he.v (X.blk s H scope (compEnvC scope cl A X.env) fp) W0 (g.blk _ _ _ _ _) elt h7
  exact ⟨r1, h2, blkOk_by h3, r4, r5, r6, sLc (pos := pos) g r1 h2 h3 h5 r5 r6⟩
theorem noSetF {iter : Expr} {env : Env} (h : noSet iter = true) (x : Value) : foldedSetIterable iter env x = pure x := by
  cases iter <;> first | rfl | (simp [noSet] at h)
theorem okLc {gt : Tg} {it e : DE} {c : Option DE} {vs : List Nat} (hi : OkE P C m k it) (hc : OkO P C m k c) (he : OkE P C m k e) : OkE P C m k (.lc gt it c e vs) := by
  have hv : ∀ (X : Cx) (W : WX), Good X P C m k W → ∀ x, mE (hasD P) C X.N X.env.scope (.lc gt it c e vs) x = true → PEok X P m k W (.lc gt it c e vs) x := fun X W g x h => by
    have h' := h
    unfold mE at h'; split at h'
    · obtain ⟨r1, r2, r3, r4, r5, r6, r7⟩ := lcParts hi hc he X W g h
      exact PE.of (pe_lc g.calm g.nd r1 r3 r4 r5 r6 (noSetF r2)) r7
    · cases h'
  exact ⟨hv, tDef hv fun F N sc x h => (by unfold mE at h; split at h <;> first | trivial | cases h), noI fun _ _ _ _ _ => rfl⟩
theorem noE {e : DE} (h : ∀ F N sc x, mE F C N sc e x = false) (hi : ∀ (X : Cx) (W : WX), Good X P C m k W → ∀ tg x, mI (hasD P) C X.N X.env.scope e tg x = true → PIok X P m k W e tg x) : OkE P C m k e :=
  ⟨fun X W g x hm => by rw [h] at hm; (cases hm), fun X W g x hm => by rw [h] at hm; (cases hm), hi⟩
theorem okRng {es : List DE} (he : ∀ e ∈ es, OkE P C m k e) : OkE P C m k (.rng es) := by
  refine noE (fun _ _ _ _ => by unfold mE; rfl) fun X W g tg x h => ?_
  unfold mI at h; split at h
  · rename_i y p xs pos
    simp only [Bool.and_eq_true, decide_eq_true_eq, Bool.or_eq_true, beq_iff_eq] at h
    obtain ⟨⟨⟨rfl, h2⟩, h3⟩, h4⟩ := h
    have hl := mEs_len h3
    have ha := okArgs he X W g _ h3
    rcases h4 with h4 | h4
    · obtain ⟨a, rfl⟩ : ∃ a, xs = [a] := List.length_eq_one_iff.mp h4
      cases es with
      | nil => simp [mEs] at h3
      | cons e es =>
        simp only [mEs, Bool.and_eq_true] at h3
        exact pRng1 g h2 (hl.trans h4) h3.1.2 ha
    · obtain ⟨a, b, rfl⟩ : ∃ a b, xs = [a, b] := by
        match xs, h4 with
        | [a, b], _ => exact ⟨a, b, rfl⟩
      cases es with
      | nil => simp [mEs] at h3
      | cons e es =>
        cases es with
        | nil => simp [mEs] at h3
        | cons e2 es =>
          simp only [mEs, Bool.and_eq_true] at h3
          exact pRng2 g h2 (hl.trans h4) h3.1.2 h3.2.1.2 ha
  · cases h
theorem okEnum {a : DE} (ha : OkE P C m k a) : OkE P C m k (.enum a) := by
  refine noE (fun _ _ _ _ => by unfold mE; rfl) fun X W g tg x h => ?_
  unfold mI at h; split at h
  · simp only [Bool.and_eq_true, decide_eq_true_eq] at h
    obtain ⟨⟨⟨rfl, h2⟩, h3⟩, h4⟩ := h
    exact pEnum g h2 h4 (ha.v X W g _ h3)
  · cases h
theorem okZip {a b : DE} (ha : OkE P C m k a) (hb : OkE P C m k b) : OkE P C m k (.zip a b) := by
  refine noE (fun _ _ _ _ => by unfold mE; rfl) fun X W g tg x h => ?_
  unfold mI at h; split at h
  · simp only [Bool.and_eq_true, decide_eq_true_eq] at h
    obtain ⟨⟨⟨⟨⟨rfl, h2⟩, h3⟩, h4⟩, h5⟩, h6⟩ := h
    exact pZip g h2 h4 h6 (ha.v X W g _ h3) (hb.v X W g _ h5)
  · cases h
theorem tFr {L : Lk} {Γ : Gm} {a : DE} (hp : isPl a = false) : ∀ σ H Q, tE L Γ W (.fr a) σ H Q → tE L Γ W a σ H Q := by
  rintro σ H Q ⟨ρ, G, A, c⟩
  unfold ev at c
  rw [hp, if_neg Bool.false_ne_true] at c
  unfold R.map at c
  refine subE A (Ext.refl A.sub) c fun t v G1 H1 p A1 x1 c1 => ?_
  obtain ⟨fp, r, fr⟩ := p.r
  have f : Fresh H G1 fp := fr.elim (fun z => by rw [hp] at z; cases z) id
  exact c1 v (join G1 H1 fp) H1 ⟨p.x.freeze fun b hb => (f.2 b hb).1, [], .fz (r.freeze (join_same p.x.sub) fun b hb => join_in hb), .inr Fresh.nil⟩
theorem sFr {a : DE} {x : Expr} (hp : isPl a = false) (ha : PEok X P m k W a x) : PEok X P m k W (.fr a) x := PE.of ha (tFr hp)
/-- the word of a test -/
def OkW (P : Pg) (C : Str → Bool) (m k : Nat) (e : DE) : Prop := ∀ (op : BoolOp) (X : Cx) (W : WX), Good X P C m k W → ∀ xs p, mE (hasD P) C X.N X.env.scope e (.BoolOp op xs p) = true → PWok X P m k W e (.BoolOp op xs p)
theorem noW {e : DE} (h : ∀ F N sc op xs p, mE F C N sc e (.BoolOp op xs p) = false) : OkW P C m k e := fun op X W g xs p hm => by rw [h] at hm; cases hm
theorem wAnd {a b : DE} (ha : OkE P C m k a) (hb : OkE P C m k b) (hw : OkW P C m k b) : OkE P C m k (.and a b) ∧ OkW P C m k (.and a b) := by
  obtain ⟨h1, h2⟩ := okAnd ha hb fun X W g z u r p h => hw .And X W g _ p h
  refine ⟨h1, fun op X W g xs p h => ?_⟩
  cases op with
  | And => exact h2 X W g xs p h
  | Or => unfold mE at h; simp at h
theorem wOr {a b : DE} (ha : OkE P C m k a) (hb : OkE P C m k b) (hw : OkW P C m k b) : OkE P C m k (.or a b) ∧ OkW P C m k (.or a b) := by
  obtain ⟨h1, h2⟩ := okOr ha hb fun X W g z u r p h => hw .Or X W g _ p h
  refine ⟨h1, fun op X W g xs p h => ?_⟩
  cases op with
  | Or => exact h2 X W g xs p h
  | And => unfold mE at h; simp at h
theorem okFr {a : DE} (ha : OkE P C m k a) (hw : OkW P C m k a) : OkE P C m k (.fr a) ∧ OkW P C m k (.fr a) := by
  have hv : ∀ (X : Cx) (W : WX), Good X P C m k W → ∀ x, mE (hasD P) C X.N X.env.scope (.fr a) x = true → PEok X P m k W (.fr a) x := fun X W g x h => by
    unfold mE at h
    simp only [Bool.and_eq_true, Bool.not_eq_true'] at h
    exact sFr h.1 (ha.v X W g x h.2)
  have er_b : ∀ t : T, asB (.fz (er t)) = asB t ∨ asB t = .no := fun t => by
    cases t with
    | fz d => exact .inl rfl
    | lst _ => exact .inr rfl
    | tup _ => exact .inr rfl
    | dic _ => exact .inr rfl
  have conv : ∀ ρ, isPl a = false → ((ev (gm P m k) ρ (.fr a)).bind asB) = (ev (gm P m k) ρ a).bind asB ∨ ((ev (gm P m k) ρ (.fr a)).bind asB) = .no := fun ρ hp => by
    rw [ev, hp, if_neg Bool.false_ne_true]
    cases q : ev (gm P m k) ρ a with
    | ok t =>
      cases t with
      | fz d => exact .inl rfl
      | lst _ => exact .inr rfl
      | tup _ => exact .inr rfl
      | dic _ => exact .inr rfl
    | ex x => exact .inl rfl
    | no => exact .inl rfl
  have tb : ∀ (W : WX) (L : Lk), isPl a = false → ∀ σ H Q, tB L (gm P m k) W (.fr a) σ H Q → tB L (gm P m k) W a σ H Q := by
    rintro W L hp σ H Q ⟨ρ, G, A, c⟩
    refine ⟨ρ, G, A, ?_⟩
    rcases conv ρ hp with e | e
    · rw [e] at c; exact c
    · rw [e] at c; exact c.elim
  refine ⟨⟨hv, fun X W g x h => ?_, fun X W g tg x h => ?_⟩, fun op X W g xs p h => ?_⟩
  · unfold mE at h
    simp only [Bool.and_eq_true, Bool.not_eq_true'] at h
    exact PT.of (ha.t X W g x h.2) (tb W _ h.1)
  · refine pGen (hv X W g x ?_) fun ρ => ?_
    · unfold mI at h; unfold mE; exact h
    · rw [evi, ev]
      split
      · rfl
      · unfold R.map; rw [bind_assoc]; rfl
  · unfold mE at h
    simp only [Bool.and_eq_true, Bool.not_eq_true'] at h
    exact PW.of (hw op X W g xs p h.2) (tb W _ h.1)
mutual
theorem allE (P : Pg) (C : Str → Bool) (m k : Nat) : ∀ e : DE, OkE P C m k e ∧ OkW P C m k e
  | .var i => ⟨okVar i, noW fun _ _ _ _ _ _ => by unfold mE; rfl⟩
  | .int i => ⟨okInt i, noW fun _ _ _ _ _ _ => by unfold mE; rfl⟩
  | .bl b => ⟨okBl b, noW fun _ _ _ _ _ _ => by unfold mE; rfl⟩
  | .non => ⟨okNon, noW fun _ _ _ _ _ _ => by unfold mE; rfl⟩
  | .str s => ⟨okStr s, noW fun _ _ _ _ _ _ => by unfold mE; rfl⟩
  | .glob x => ⟨okGlob x, noW fun _ _ _ _ _ _ => by unfold mE; rfl⟩
  | .tup es => ⟨okTup (allEs P C m k es), noW fun _ _ _ _ _ _ => by unfold mE; rfl⟩
  | .lst es => ⟨okLst (allEs P C m k es), noW fun _ _ _ _ _ _ => by unfold mE; rfl⟩
  | .ix a b => ⟨okIx (allE P C m k a).1 (allE P C m k b).1, noW fun _ _ _ _ _ _ => by unfold mE; rfl⟩
  | .sl a lo hi => ⟨okSl (allE P C m k a).1 (allO P C m k lo) (allO P C m k hi), noW fun _ _ _ _ _ _ => by unfold mE; rfl⟩
  | .rev a => ⟨okRev (allE P C m k a).1, noW fun _ _ _ _ _ _ => by unfold mE; rfl⟩
  | .bin o a b => ⟨okBin (allE P C m k a).1 (allE P C m k b).1, noW fun _ _ _ _ _ _ => by unfold mE; rfl⟩
  | .neg a => ⟨okNeg (allE P C m k a).1, noW fun _ _ _ _ _ _ => by unfold mE; rfl⟩
  | .cmp o a b => ⟨okCmp (allE P C m k a).1 (allE P C m k b).1, noW fun _ _ _ _ _ _ => by unfold mE; rfl⟩
  | .chain o o' a b c => ⟨okChain (allE P C m k a).1 (allE P C m k b).1 (allE P C m k c).1, noW fun _ _ _ _ _ _ => by unfold mE; rfl⟩
  | .and a b => wAnd (allE P C m k a).1 (allE P C m k b).1 (allE P C m k b).2
  | .or a b => wOr (allE P C m k a).1 (allE P C m k b).1 (allE P C m k b).2
  | .not a => ⟨okNot (allE P C m k a).1, noW fun _ _ _ _ _ _ => by unfold mE; rfl⟩
  | .ite c a b => ⟨okIte (allE P C m k c).1 (allE P C m k a).1 (allE P C m k b).1, noW fun _ _ _ _ _ _ => by unfold mE; rfl⟩
  | .call f es => ⟨okCall (allEs P C m k es), noW fun _ _ _ _ _ _ => by unfold mE; rfl⟩
  | .bif f es => ⟨okBif (allEs P C m k es), noW fun _ _ _ _ _ _ => by unfold mE; rfl⟩
  | .isi a t => ⟨okIsi (allE P C m k a).1, noW fun _ _ _ _ _ _ => by unfold mE; rfl⟩
  | .lc g it c e vs => ⟨okLc (allE P C m k it).1 (allO P C m k c) (allE P C m k e).1, noW fun _ _ _ _ _ _ => by unfold mE; rfl⟩
  | .rng es => ⟨okRng (allEs P C m k es), noW fun _ _ _ _ _ _ => by unfold mE; rfl⟩
  | .enum a => ⟨okEnum (allE P C m k a).1, noW fun _ _ _ _ _ _ => by unfold mE; rfl⟩
  | .zip a b => ⟨okZip (allE P C m k a).1 (allE P C m k b).1, noW fun _ _ _ _ _ _ => by unfold mE; rfl⟩
  | .fr a => okFr (allE P C m k a).1 (allE P C m k a).2
theorem allEs (P : Pg) (C : Str → Bool) (m k : Nat) : ∀ es : List DE, ∀ e ∈ es, OkE P C m k e
  | [], _, h => nomatch h
  | e :: es, x, h => by
    rcases List.mem_cons.mp h with q | q
    · rw [q]; exact (allE P C m k e).1
    · exact allEs P C m k es x q
theorem allO (P : Pg) (C : Str → Bool) (m k : Nat) : ∀ o : Option DE, OkO P C m k o
  | none => trivial
  | some e => (allE P C m k e).1
end
end
end DP

/-! try .. except C as n: y = n, the exception tracked from there on. -/
namespace DP
open PySem PySem.Spec PyProof.Rows L2
section
variable {X : Cx} {pins : List (Addr × Obj)} {σ : L2.St} {H : Hp} {s : Shared}
/-- an exception that stands in the state is tracked from here on -/
theorem Inv.track {a : Addr} {oe : Obj} {vs : Array Value} {cls : Value} {d : Option Addr} (I : Inv X (pins ++ [(a, oe)]) σ H s) (hz : Zc cls d oe) (hd : oe.data = .fields vs) (n0 : X.s_0.heap.get? a = none) (hp : ∀ p ∈ X.pn ++ pins, p.1 ≠ a) :
    Inv X pins σ (upd H a (ExH cls d a)) s := by
  obtain ⟨e, n, nL, nF, nc⟩ := I.pin (a, oe) (List.mem_append_right _ (List.mem_append_right _ List.mem_cons_self))
  have e : s.heap.get? a = some oe := e
  have n : H a = none := n
  have ne0 : ∀ b o, X.s_0.heap.get? b = some o → b ≠ a := fun b o q z => by rw [z, n0] at q; cases q
  refine ⟨I.ok, I.os, I.bare, ⟨I.base.keep, I.base.slot, fun b u q m hb => ?_, I.base.there, fun b xs q => ?_, fun b o u q => ?_, fun b ps q => ?_⟩, I.loc, I.cell, ?_, fun x c q => ?_, fun p hm => ?_, fun b u q => ?_, I.len⟩
  · rw [upd_ne (ne0 b u q)]
    exact I.base.free b u q m hb
  · have z := I.base.tups b xs q
    rw [upd_ne (ne_of_none z n)]; exact z
  · have z := I.base.frzs b o u q
    rw [upd_ne (ne_of_none z n)]; exact z
  · obtain ⟨m, z⟩ := I.base.tbls b ps q
    exact ⟨m, by rw [upd_ne (ne_of_none z n)]; exact z⟩
  · rw [upd_ne (Ne.symm nL)]; exact I.free
  · have : c ≠ a := fun z => by
      obtain ⟨v, o, q1, q2⟩ := I.cell x c q
      rw [z, e] at q1
      cases q1
      exact nc _ q2
    rw [upd_ne this]
    exact I.freeC x c q
  · obtain ⟨q1, q2, q3, q4, q5⟩ := I.pin p (by
      rcases List.mem_append.mp hm with z | z
      · exact List.mem_append_left _ z
      · exact List.mem_append_right _ (List.mem_append_left _ z))
    exact ⟨q1, by rw [upd_ne (hp p hm)]; exact q2, q3, q4, q5⟩
  · by_cases hb : b = a
    · subst hb
      rw [upd_same] at q
      cases q
      exact ⟨⟨oe, vs, e, hz, hd⟩, ⟨oe, e⟩, fun _ _ ⟨o, v, q1, q2⟩ k => ⟨o, v, k o q1, q2⟩⟩
    · rw [upd_ne hb] at q
      exact (I.hok b u q).stay (fun c v _ q => q) (fun c q => by rw [upd_ne (ne_of_none q n)]; exact q) fun c xs q => by rw [upd_ne (ne_of_none q n)]; exact q
end
/-- what 'except x as n: y = n' wishes of an exception of the body: slots i, j -/
def wKeep (K : PySem.W.Frag) (c : Value) (i j : Nat) (Wout : WX) (D : Ends) : WX := fun cls d σ H =>
  ∃ b, PySem.W.exmOne K cls c = some b ∧ (b = true → ∀ a, H a = none → D.nx (((σ.set i (some (.ref a))).set j (some (.ref a))).set i none) (upd H a (ExH cls d a))) ∧ (b = false → Wout cls d σ H)
section
variable {X : Cx} {x n y : Str} {c : Value} {i j : Nat} {body : List Stmt} {np yp yq pos pos' p2 : Pos} {tb : WX → TS} {Wout : WX}
theorem ps_try_keep (hs : X.stack = X.env :: X.outer) (hf : X.env.frame = some X.env.locals) (hex : X.ex = []) (hN : X.N.Nodup) (hi : X.N[i]? = some n) (hj : X.N[j]? = some y) (hln : X.env.kindOf n = some .local) (hly : X.env.kindOf y = some .local)
    (hdn : (n == ("__debug__" : Str)) = false) (hcn : (n == ("__classdict__" : Str)) = false) (hc : Names X x c) (tk : Takes X Wout)
    (hb : ∀ (W : WX) (pn : List (Addr × Obj)) (xe : Value → Shared → Prop), Takes (X.tr pn xe) W → PassesOwn (model X.prog X.w) X.A X.env xe → PSs (X.tr pn xe) body (tb W)) :
    PS X (.Try body [.ExceptHandler (some (.Name x np)) (some n) [.Assign [.Name y yp] (.Name n yq) p2] pos'] [] [] pos) (fun D σ H => tb (wKeep X.K c i j Wout D) D σ H) := by
  refine ⟨fun pins s σ H D I h => ?_⟩
  have ok := I.ok
  have hfr : X.A.frames = some (X.env :: X.outer) := by rw [ok.frames, hs]
  have hloc : Loc X.env.scope n := .inl hln
  refine wpAny_Try_except ?_
  refine wpAny_mono ((hb (wKeep X.K c i j Wout D) (X.pn ++ pins) (fun e s₁ => wpAny (model X.prog X.w) X.A (noteFrame e X.env) (fun _ s₂ => wpAny (model X.prog X.w) X.A (setFlight e none) (fun _ s₃ =>
    wpAny (model X.prog X.w) X.A (handleBy e X.env [.ExceptHandler (some (.Name x np)) (some n) [.Assign [.Name y yp] (.Name n yq) p2] pos']) (SP X pins D) X.xe s₃) X.xe s₂) X.xe s₁) (fun u s' xx => ?_) PassesOwn.looking).run [] s σ H D (I.toTry _) h) (fun f s1 hsp => ?_) (fun e s1 he => he)
  · obtain ⟨a, B, sI, pins', σ', H', cls, d, rfl, J', nb, up, sky, na, os, ag, b, hb1, hyes, hno⟩ := xx
    have J : Inv X pins σ' H' sI := J'.ofTry ok
    have sky' : Sky B (X.env :: X.outer) a (Zc cls d) X.env.locals s'.heap := by rw [← hs]; exact sky
    show wpAny (model X.prog X.w) X.A (noteFrame (.ref a) X.env) _ _ _
    refine Sky.land Zc.steady hfr hf sky' fun h3 fl3 up3 => ?_
    have J3 : Inv X pins σ' H' { s' with heap := h3 } := J.landed nb fl3.1 (up.trans up3) os ag
    obtain ⟨oe3, vs3, he3, hz3, hd3⟩ := fl3.there
    have nfr : a ∉ frs (X.env :: X.outer) := fun hm => by
      obtain ⟨_, o', e', hnf⟩ := fl3.2.2.1.mem hm
      rw [he3] at e'; cases e'
      exact hnf _ hd3
    have nL : a ≠ X.env.locals := fun z => nfr (List.mem_filterMap.mpr ⟨X.env, List.mem_cons_self, by rw [hf, z]⟩)
    have nF : a ∉ X.fs := fun hm => by
      obtain ⟨e, he, q⟩ := List.mem_filterMap.mp hm
      exact nfr (List.mem_filterMap.mpr ⟨e, List.mem_cons_of_mem _ he, q⟩)
    have nI : sI.heap.get? a = none := by
      cases q : sI.heap.get? a with
      | none => rfl
      | some o =>
        have z := nb a o q (by rw [hs]; exact nfr)
        rw [fl3.2.1] at z; cases z
    have n0 : X.s_0.heap.get? a = none := by
      cases q : X.s_0.heap.get? a with
      | none => rfl
      | some o =>
        obtain ⟨o', z⟩ := J.base.there a o q (by rw [hex]; exact fun z => nomatch z)
        rw [nI] at z; cases z
    have npin : ∀ p ∈ X.pn ++ pins, p.1 ≠ a := fun p hm z => by
      have q := (J.pin p hm).1
      rw [z, nI] at q; cases q
    have S3 := J3.suite he3 hd3 na nL nF
    refine wpAny_handleBy_cons (codeAny_handlers_test ?_) (by intro q; cases q)
    have LT : PySem.W.Looks (model X.prog X.w) h3 (typeOf (.ref a)) cls := fun A Q E s k q => wpAny_typeOf_ref (k _ _ he3) (by rw [hz3.1]; exact q)
    have LM := PySem.W.exm_one (M := model X.prog X.w) (J3.kIn) LT hb1
    have test : ∀ {Q : Value → Shared → Prop} {E : Value → Shared → Prop}, Q c { s' with heap := h3 } → wpAny (model X.prog X.w) (X.A.mark (some (.ref a))) (eval (.Name x np) X.env) Q E { s' with heap := h3 } := fun {Q E} q => by
      obtain ⟨hg, hdbg, hm | ⟨hm, hv, hnn⟩⟩ := hc
      · exact ld_glob (X := X.suite a ((a, oe3) :: (X.pn ++ pins))) S3 hg hm q hdbg
      · exact ld_blt (X := X.suite a ((a, oe3) :: (X.pn ++ pins))) S3 hg hm hv q hnn hdbg
    refine test (LM.here ?_)
    cases b with
    | true =>
      refine codeAny_handlers_suite_as ?_
      refine HandSPX.lands_againZ fl3 fun h4 fl4 up4 => ?_
      have J4 : Inv X pins σ' H' { s' with heap := h4 } := J.landed nb fl4.1 ((up.trans up3).trans up4) os ag
      obtain ⟨oe4, vs4, he4, hz4, hd4⟩ := fl4.there
      have S4 := J4.suite he4 hd4 na nL nF
      have hlen : i < σ'.length := by
        have h1 := (List.getElem?_eq_some_iff.mp hi).1
        have h2 := J.len
        omega
      refine store_ok (X := X.suite a ((a, oe4) :: (X.pn ++ pins))) (v := .ref a) S4 hN hi hloc rfl (fun s5 S5 => ?_) (.inr hln)
      have su : PSs (X.suite a ((a, oe4) :: (X.pn ++ pins))) [.Assign [.Name y yp] (.Name n yq) p2] (tAsg (tVar i) (gName j)) :=
        pss_one (ps_set (X := X.suite a ((a, oe4) :: (X.pn ++ pins))) hN hj (.inl hly) (pe_var (X := X.suite a ((a, oe4) :: (X.pn ++ pins))) hi (.inl hln) hdn hcn) rfl (.inr hly))
      refine wpAny_mono (su.run [] s5 _ H' { nx := fun σ6 H6 => σ6 = (σ'.set i (some (.ref a))).set j (some (.ref a)) ∧ H6 = H', rt := fun _ _ => False, bk := fun _ _ => False, ct := fun _ _ => False } S5 ⟨.ref a, List.getElem?_set_self hlen, rfl, rfl⟩) (fun f s6 hsp => ?_) (fun _ _ z => False.elim z)
      cases f with
      | next =>
        obtain ⟨σ6, H6, S6, rfl, rfl⟩ := hsp
        have S7 : Inv X (pins ++ [(a, oe4)]) ((σ'.set i (some (.ref a))).set j (some (.ref a))) H6 s6 := by
          have S8 := S6.unsuite ok
          refine S8.pins_of fun p hm => ?_
          refine S6.pin p ?_
          rw [List.append_nil]
          rcases List.mem_append.mp hm with z | z
          · exact List.mem_cons_of_mem _ (List.mem_append_right _ z)
          · have : p = (a, oe4) := by simpa using z
            rw [this]; exact List.mem_cons_self
        refine gone_ok S7 hN hi hln fun s7 J7 => ?_
        exact ⟨_, _, Inv.track J7 hz4 hd4 n0 npin, hyes rfl a na⟩
      | brk => obtain ⟨σ6, H6, S6, q6⟩ := hsp; exact q6.elim
      | cont => obtain ⟨σ6, H6, S6, q6⟩ := hsp; exact q6.elim
      | ret u => obtain ⟨v6, σ6, H6, S6, r6, q6⟩ := hsp; exact q6.elim
    | false =>
      show wpAny _ X.A (handleBy (.ref a) X.env []) _ _ _
      refine wpAny_handleBy_nil ?_
      obtain ⟨k1, k2, k3, oe, vs, T, oT, ts', he, hz, hd, h1, hr⟩ := id fl3
      unfold PySem.passOn
      refine wpAny_bind (wpAny_field he hd h1 ?_)
      rw [if_neg (show ¬ ((Value.ref T == Value.none) = true) from by simp)]
      have fin : wpAny (model X.prog X.w) X.A (setFlight (.ref a) X.env.frame) (fun _ s4 => wpAny (model X.prog X.w) X.A (throw (.ref a) : Sem Flow) (SP X pins D) X.xe s4) X.xe { s' with heap := h3 } := by
        rw [hf]
        refine HandSPX.setFlight_upZ fl3 fun h4 hh4 up4 => wpAny_throw (tk _ _ ?_)
        exact ⟨a, B, sI, pins, σ', H', cls, d, rfl, J, nb, (up.trans up3).trans up4, .inr (.inr (by rw [hs]; exact hh4)), na, os, ag, hno rfl⟩
      first
        | exact wpAny_bind (wpAny_pure (wpAny_bind fin))
        | exact wpAny_bind fin
  · cases f with
    | next =>
      obtain ⟨σ', H', J', q⟩ := hsp
      exact wpAny_execs_nil ⟨σ', H', J'.ofTry ok, q⟩
    | brk =>
      obtain ⟨σ', H', J', q⟩ := hsp
      exact ⟨σ', H', J'.ofTry ok, q⟩
    | cont =>
      obtain ⟨σ', H', J', q⟩ := hsp
      exact ⟨σ', H', J'.ofTry ok, q⟩
    | ret u =>
      obtain ⟨v, σ', H', J', r, q⟩ := hsp
      exact ⟨v, σ', H', J'.ofTry ok, r, q⟩
end
end DP

/-! The evaluator is right: statements. -/
namespace DP
open PySem PySem.Spec PyProof.Rows L2

/-! ### the state, more -/
section
variable {L : Lk} {G0 H0 G H : Hp} {io : Addr → Prop} {ρ : Ev} {σ : L2.St} {f : Nat → List Addr}
theorem SI.h0 (I : SI L G0 H0 io ρ σ G H f) {a : Addr} (n : H a = none) : H0 a = none ∨ io a := by
  cases q : H0 a with
  | none => exact .inl rfl
  | some o =>
    by_cases h : io a
    · exact .inr h
    · have := I.keep a o q h
      rw [n] at this; cases this
/-- a slot's own tree written at its node a -/
theorem SI.upd (I : SI L G0 H0 io ρ σ G H f) {i : Nat} {t t' : T} {v : V} {a : Addr} {o : HO} {g : List Addr} (hi : ρ[i]? = some (some ⟨true, t⟩)) (hv : σ[i]? = some (some v)) (ha : a ∈ f i) (r : RT L G (L2.upd H a o) v t' g) (nd : g.Nodup)
    (hg : ∀ b ∈ g, b ∈ f i ∨ (G b = none ∧ (H0 b = none ∨ io b) ∧ ∀ j, j ≠ i → b ∉ f j)) :
    SI L G0 H0 io (ρ.set i (some ⟨true, t'⟩)) σ G (L2.upd H a o) (fun j => if j = i then g else f j) := by
  obtain ⟨ga, h0a, oa, hoa⟩ := I.fr i a ha
  have ne : ∀ j, j ≠ i → ∀ b ∈ f j, b ≠ a := fun j hj b hb z => by
    rw [z] at hb
    exact I.dj i j (Ne.symm hj) a ha hb
  exact {
    sub := fun b u e => by rw [upd_ne (ne_of_none e ga)]; exact I.sub b u e
    g0 := I.g0
    keep := fun b u e n => by
      have : b ≠ a := fun z => by
        subst z
        rcases h0a with q | q
        · rw [q] at e; cases e
        · exact n q
      rw [upd_ne this]; exact I.keep b u e n
    new := I.new
    len := by rw [List.length_set]; exact I.len
    own := fun j u e => by
      rcases set_get e with ⟨e1, e2, hl⟩ | ⟨e1, e2⟩
      · subst e1
        cases e2
        exact ⟨v, hv, by rw [if_pos rfl]; exact r⟩
      · obtain ⟨w, p, q⟩ := I.own j u e2
        exact ⟨w, p, by rw [if_neg e1]; exact q.mono (Same.refl _) fun b hb => upd_ne (ne j e1 b hb)⟩
    fr := fun j b hb => by
      by_cases e : j = i
      · rw [if_pos e] at hb
        have ex : ∃ u, L2.upd H a o b = some u := r.there b hb
        rcases hg b hb with z | ⟨z1, z2, _⟩
        · obtain ⟨p, q, _⟩ := I.fr i b z
          exact ⟨p, q, ex⟩
        · exact ⟨z1, z2, ex⟩
      · rw [if_neg e] at hb
        obtain ⟨p, q, u, w⟩ := I.fr j b hb
        exact ⟨p, q, u, by rw [upd_ne (ne j e b hb)]; exact w⟩
    bor := fun j u e => by
      rcases set_get e with ⟨e1, e2, hl⟩ | ⟨e1, e2⟩
      · cases e2
      · obtain ⟨w, fp, p, q, z⟩ := I.bor j u e2
        refine ⟨w, fp, p, q.mono (Same.refl _) fun b hb => upd_ne fun y => ?_, z⟩
        obtain ⟨z1, o', z2⟩ := z b hb
        subst y
        rcases h0a with y | y
        · rw [y] at z2; cases z2
        · exact z1 y
    nd := fun j => by
      by_cases e : j = i
      · rw [if_pos e]; exact nd
      · rw [if_neg e]; exact I.nd j
    dj := fun j k h b hb hk => by
      by_cases e : j = i
      · rw [if_pos e] at hb
        have hki : k ≠ i := fun z => h (e.trans z.symm)
        rw [if_neg hki] at hk
        rcases hg b hb with z | ⟨_, _, z⟩
        · exact I.dj i k (Ne.symm hki) b z hk
        · exact z k hki hk
      · rw [if_neg e] at hb
        by_cases e2 : k = i
        · rw [if_pos e2] at hk
          rcases hg b hk with z | ⟨_, _, z⟩
          · exact I.dj j i e b hb z
          · exact z j e hb
        · rw [if_neg e2] at hk
          exact I.dj j k h b hb hk }
/-- an own tree taken into the ground -/
theorem SI.frz (I : SI L G0 H0 io ρ σ G H f) {i : Nat} {t : T} (hi : ρ[i]? = some (some ⟨true, t⟩)) :
    SI L G0 H0 io (ρ.set i (some ⟨true, .fz (er t)⟩)) σ (join G H (f i)) H (fun j => if j = i then [] else f j) := by
  have s1 : Same G (join G H (f i)) := join_same I.sub
  have nin : ∀ j, j ≠ i → ∀ b ∈ f j, b ∉ f i := fun j hj b hb => I.dj j i hj b hb
  obtain ⟨v, hv, r⟩ := I.own i t hi
  exact {
    sub := join_sub I.sub
    g0 := I.g0.trans s1
    keep := I.keep
    new := fun b o e => by
      by_cases h : b ∈ f i
      · exact .inr (I.fr i b h).2.1
      · rw [join_out h] at e; exact I.new b o e
    len := by rw [List.length_set]; exact I.len
    own := fun j u e => by
      rcases set_get e with ⟨e1, e2, hl⟩ | ⟨e1, e2⟩
      · subst e1
        cases e2
        exact ⟨v, hv, by rw [if_pos rfl]; exact .fz (r.freeze s1 fun b hb => join_in hb)⟩
      · obtain ⟨w, p, q⟩ := I.own j u e2
        exact ⟨w, p, by rw [if_neg e1]; exact q.mono s1 fun b hb => rfl⟩
    fr := fun j b hb => by
      by_cases e : j = i
      · rw [if_pos e] at hb; cases hb
      · rw [if_neg e] at hb
        obtain ⟨p, q, w⟩ := I.fr j b hb
        exact ⟨by rw [join_out (nin j e b hb)]; exact p, q, w⟩
    bor := fun j u e => by
      rcases set_get e with ⟨e1, e2, hl⟩ | ⟨e1, e2⟩
      · cases e2
      · obtain ⟨w, fp, p, q, z⟩ := I.bor j u e2
        exact ⟨w, fp, p, q.mono s1 fun b hb => rfl, z⟩
    nd := fun j => by
      by_cases e : j = i
      · rw [if_pos e]; exact List.nodup_nil
      · rw [if_neg e]; exact I.nd j
    dj := fun j k h b hb hk => by
      by_cases e : j = i
      · rw [if_pos e] at hb; cases hb
      · rw [if_neg e] at hb
        by_cases e2 : k = i
        · rw [if_pos e2] at hk; cases hk
        · rw [if_neg e2] at hk; exact I.dj j k h b hb hk }
/-- the ground of a later start -/
theorem SI.back {G1 : Hp} (s : Same G0 G1) (n : ∀ b o, G1 b = some o → G0 b = some o ∨ H0 b = none ∨ io b) (I : SI L G1 H0 io ρ σ G H f) : SI L G0 H0 io ρ σ G H f :=
  { I with g0 := s.trans I.g0, new := fun b o e => (I.new b o e).elim (n b o) .inr }
theorem SI.forth (I : SI L G0 H0 io ρ σ G H f) : SI L G H0 io ρ σ G H f :=
  { I with g0 := Same.refl _, new := fun b o e => .inl e }
theorem RTs.dropLast : ∀ {vs ts fp}, RTs L G H vs ts fp → ∃ fq, RTs L G H vs.dropLast ts.dropLast fq ∧ fq.Sublist fp
  | _, _, _, .nil => ⟨[], .nil, List.Sublist.refl _⟩
  | _, _, _, .cons (xs := xs) (ts := ts) (f1 := f1) (f2 := f2) h r => by
    cases r with
    | nil => exact ⟨[], .nil, List.nil_sublist _⟩
    | cons h2 r2 =>
      obtain ⟨fq, a, b⟩ := RTs.dropLast (.cons h2 r2)
      exact ⟨_, .cons h a, List.Sublist.append (List.Sublist.refl _) b⟩
end

/-! ### what is wanted of an outcome -/
def CnO (L : Lk) (W : WX) (G0 H0 : Hp) (io : Addr → Prop) (D : Ends) (o : Out) : Prop := match o with
  | .nx ρ => ∀ σ G H f, SI L G0 H0 io ρ σ G H f → D.nx σ H
  | .brk ρ => ∀ σ G H f, SI L G0 H0 io ρ σ G H f → D.bk σ H
  | .cont ρ => ∀ σ G H f, SI L G0 H0 io ρ σ G H f → D.ct σ H
  | .ret t => ∀ v ρ σ G H f fp, SI L G0 H0 io ρ σ G H f → RT L G H v t fp → fp.Nodup → (∀ a ∈ fp, G a = none ∧ (H0 a = none ∨ io a)) → D.rt v H
  | .ex x ρ => ∀ cls d σ G H f, SI L G0 H0 io ρ σ G H f → RX L G x cls d → W cls d σ H
  | .no => False
theorem CnO.back {L : Lk} {W : WX} {G0 G1 H0 : Hp} {io : Addr → Prop} {D : Ends} {o : Out} (k : ∀ ρ σ G H f, SI L G1 H0 io ρ σ G H f → SI L G0 H0 io ρ σ G H f) (c : CnO L W G0 H0 io D o) : CnO L W G1 H0 io D o := by
  cases o with
  | nx ρ => exact fun σ G H f I => c σ G H f (k _ _ _ _ _ I)
  | brk ρ => exact fun σ G H f I => c σ G H f (k _ _ _ _ _ I)
  | cont ρ => exact fun σ G H f I => c σ G H f (k _ _ _ _ _ I)
  | ret t => exact fun v ρ σ G H f fp I => c v ρ σ G H f fp (k _ _ _ _ _ I)
  | ex x ρ => exact fun cls d σ G H f I => c cls d σ G H f (k _ _ _ _ _ I)
  | no => exact c
def tS (L : Lk) (Γ : Gm) (mk : Str → List D → Option Xc) (W : WX) (m : Nat) (s : DS) : TS := fun D σ H => ∃ G0 H0 io ρ G f, SI L G0 H0 io ρ σ G H f ∧ CnO L W G0 H0 io D (st Γ mk m ρ s)
def tSs (L : Lk) (Γ : Gm) (mk : Str → List D → Option Xc) (W : WX) (m : Nat) (ss : List DS) : TS := fun D σ H => ∃ G0 H0 io ρ G f, SI L G0 H0 io ρ σ G H f ∧ CnO L W G0 H0 io D (sts Γ mk m ρ ss)
section
variable {L : Lk} {Γ : Gm} {W : WX} {G0 H0 G H : Hp} {io : Addr → Prop} {D : Ends} {ρ : Ev} {σ : L2.St} {f : Nat → List Addr}
theorem stE {Q1 : VK} {e : DE} {k : T → Out} (I : SI L G0 H0 io ρ σ G H f) (c : CnO L W G0 H0 io D ((ev Γ ρ e).out ρ k))
    (h : ∀ t v G1 H1, ev Γ ρ e = .ok t → Post L G H (isPl e) t v G1 H1 → SI L G0 H0 io ρ σ G1 H1 f → CnO L W G0 H0 io D (k t) → Q1 v H1) : tE L Γ W e σ H Q1 := by
  refine ⟨ρ, G, ⟨G0, H0, io, f, I⟩, ?_⟩
  cases q : ev Γ ρ e with
  | ok t => rw [q] at c; exact fun v G1 H1 p => h t v G1 H1 q p (I.ext p.x) c
  | ex x => rw [q] at c; exact fun cls d G1 H1 x rx => c cls d σ G1 H1 f (I.ext x) rx
  | no => rw [q] at c; exact c
theorem stB {Q1 : Bool → Hp → Prop} {e : DE} {k : Bool → Out} (I : SI L G0 H0 io ρ σ G H f) (c : CnO L W G0 H0 io D (((ev Γ ρ e).bind asB).out ρ k))
    (h : ∀ b G1 H1, SI L G0 H0 io ρ σ G1 H1 f → CnO L W G0 H0 io D (k b) → Q1 b H1) : tB L Γ W e σ H Q1 := by
  refine ⟨ρ, G, ⟨G0, H0, io, f, I⟩, ?_⟩
  cases q : (ev Γ ρ e).bind asB with
  | ok t => rw [q] at c; exact fun v G1 H1 p => by cases p.2; exact h t G1 H1 (I.ext p.1) c
  | ex x => rw [q] at c; exact fun cls d G1 H1 x rx => c cls d σ G1 H1 f (I.ext x) rx
  | no => rw [q] at c; exact c
theorem stI {Q1 : It → Hp → Prop} {e : DE} {k : List DP.D → Out} (I : SI L G0 H0 io ρ σ G H f) (c : CnO L W G0 H0 io D ((evi Γ ρ e).out ρ k))
    (h : ∀ ds J G1 H1, ItW L J ds G1 → SI L G0 H0 io ρ σ G1 H1 f → CnO L W G0 H0 io D (k ds) → Q1 J H1) : tI L Γ W e σ H Q1 := by
  refine ⟨ρ, G, ⟨G0, H0, io, f, I⟩, ?_⟩
  cases q : evi Γ ρ e with
  | ok t => rw [q] at c; exact fun v G1 H1 p => h t v G1 H1 p.w (I.ext p.x) c
  | ex x => rw [q] at c; exact fun cls d G1 H1 x rx => c cls d σ G1 H1 f (I.ext x) rx
  | no => rw [q] at c; exact c
/-- new nodes are in no slot -/
theorem SI.apart (I : SI L G0 H0 io ρ σ G H f) {a : Addr} (n : H a = none) (j : Nat) : a ∉ f j := fun h => by
  obtain ⟨_, _, o, q⟩ := I.fr j a h
  rw [n] at q; cases q
/-- a value into a slot -/
theorem SI.put {G1 H1 : Hp} {pl : Bool} {t : T} {v : V} {fp : List Addr} (I : SI L G0 H0 io ρ σ G H f) (x : Ext G H G1 H1) (r : RT L G1 H1 v t fp) (fr : Fresh H G1 fp) (i : Nat) : SI L G0 H0 io (setV ρ i t) (σ.set i (some v)) G1 H1 (fun j => if j = i then fp else f j) :=
  (I.ext x).set r fr.1 (fun a ha => ⟨(fr.2 a ha).2, I.h0 (fr.2 a ha).1⟩) fun j _ a ha => I.apart (fr.2 a ha).1 j
end
/-- a class raised with one text -/
def RsM (K : PySem.W.Frag) (mg : Str → Option Value) (c : Str) : Prop := ∃ (C : Addr) (B newId initId : String) (bmB : List Value), ExcBaseFacts B newId initId bmB ∧ PySem.W.excIn K C bmB newId = true ∧ mg c = some (.ref C) ∧ PySem.W.keepIn K (.ref C) = true ∧
  PySem.W.subIn K (.ref C) (.type "BaseException") = some true ∧ PySem.W.typeIn K (.ref C) = some (.type "type")
structure GoodS (X : Cx) (P : Pg) (C R : Str → Bool) (m k : Nat) (W : WX) : Prop where
  g : Good X P C m k W
  hs : X.stack = X.env :: X.outer
  hf : X.env.frame = some X.env.locals
  hex : X.ex = []
  own : PassesOwn (model X.prog X.w) X.A X.env X.xe
  fn : ∀ x, X.fn x = true
  kd : X.env.scope.kind = .function
  rs : ∀ c, R c = true → RsM X.K X.mg c

/-! ### the text -/
def fnT : Str → Bool := fun _ => true
def isLc : Expr → Bool
  | .ListComp _ _ _ _ => true | .SetComp _ _ _ _ => true | .DictComp _ _ _ _ _ => true
  | _ => false
def isTupE : Expr → Bool
  | .Tuple _ _ _ => true
  | _ => false
/-- name = [..], as swapsWith has it -/
def swB (sc : Scope) (tg x : Expr) : Bool := match x, tg with
  | .ListComp _ _ scope cp, .Name t p => (match sc.names.lookup t with | some .local => true | _ => false) && p.line == cp.line && !(scope.names.any fun (n, k) => n == t && (k == .local || k == .cell))
  | _, _ => false
def lclB (N : List Str) (sc : Scope) (i : Nat) (x : Str) : Bool := decide (N[i]? = some x) && (match sc.names.lookup x with | some .local => true | _ => false) && !(x == ("__debug__" : Str)) && !(x == ("__classdict__" : Str))
mutual
def mS (F C R : Str → Bool) (N : List Str) (sc : Scope) : DS → Stmt → Bool
  | .asg g e, s => (match s with
    | .Assign [tg] x _ => mE F C N sc e x && mG fnT N sc g tg && (match g with | .nm _ => true | .tup _ => !isTupE x)
    | _ => false)
  | .app p e, s => (match p, s with
    | .var i, .Expr (.Call (.Attribute (.Name y _) a ap) [x] [] cp) _ => decide (("append" : Str) = a) && ap.endLine == cp.line && visB N sc i y && mE F C N sc e x && noStar x
    | _, _ => false)
  | .pop g p, s => (match p, g, s with
    | .var i, none, .Expr (.Call (.Attribute (.Name y _) a ap) [] [] cp) _ => decide (("pop" : Str) = a) && ap.endLine == cp.line && visB N sc i y
    | .var i, some g, .Assign [tg] (.Call (.Attribute (.Name y _) a ap) [] [] cp) _ => decide (("pop" : Str) = a) && ap.endLine == cp.line && visB N sc i y && mG fnT N sc g tg
    | _, _, _ => false)
  | .ext _ _, _ => false
  | .setIx _ _ _, _ => false
  | .expr e, s => (match s with | .Expr x _ => mE F C N sc e x && !isLc x | _ => false)
  | .ife c a b, s => (match s with | .If x y z _ => mE F C N sc c x && mSs F C R N sc a y && mSs F C R N sc b z | _ => false)
  | .for_ g it b, s => (match s with | .For tg x y [] _ => mI F C N sc it tg x && noSet x && mG fnT N sc g tg && mSs F C R N sc b y | _ => false)
  | .whil c b, s => (match s with | .While x y [] _ => mE F C N sc c x && mSs F C R N sc b y | _ => false)
  | .ret e, s => (match s with | .Return (some x) _ => mE F C N sc e x | _ => false)
  | .retN, s => (match s with | .Return none _ => true | _ => false)
  | .pass, s => (match s with | .Pass _ => true | _ => false)
  | .brk, s => (match s with | .Break _ => true | _ => false)
  | .cont, s => (match s with | .Continue _ => true | _ => false)
  | .raise _ _, _ => false
  | .raiseM c, s => (match s with | .Raise (some (.Call (.Name y _) [.Constant (.str _) _ _] [] _)) none _ => decide (c = y) && R c && glB sc y | _ => false)
  | .tryK b c i j, s => (match s with
    | .Try y [.ExceptHandler (some (.Name x _)) (some n) [.Assign [.Name z _] (.Name n2 _) _] _] [] [] _ => mSs F C R N sc b y && decide (c = x) && C c && glB sc x && lclB N sc i n && lclB N sc j z && decide (n = n2)
    | _ => false)
  | .tryN b c j, s => (match s with
    | .Try y [.ExceptHandler (some (.Name x _)) none [.Assign [.Name z _] (.Constant .none _ _) _] _] [] [] _ => mSs F C R N sc b y && decide (c = x) && C c && glB sc x && lclB N sc j z
    | _ => false)
  | .frz _, _ => false
def mSs (F C R : Str → Bool) (N : List Str) (sc : Scope) : List DS → List Stmt → Bool
  | [], xs => (match xs with | [] => true | _ => false)
  | s :: ss, xs => (match s, xs with
    | .frz _, xs => mSs F C R N sc ss xs
    | s, x :: xs => mS F C R N sc s x && mSs F C R N sc ss xs
    | _, _ => false)
end
end DP

/-! The evaluator is right: statements, one by one. -/
namespace DP
open PySem PySem.Spec PyProof.Rows L2
section
variable {X : Cx} {P : Pg} {C Rc : Str → Bool} {m k : Nat} {W : WX}
abbrev PSok (X : Cx) (P : Pg) (m k : Nat) (W : WX) (s : DS) (x : Stmt) : Prop := PS X x (tS (lk X) (gm P m k) P.mkX W m s)
abbrev PSsok (X : Cx) (P : Pg) (m k : Nat) (W : WX) (s : List DS) (x : List Stmt) : Prop := PSs X x (tSs (lk X) (gm P m k) P.mkX W m s)
theorem okE (P : Pg) (C : Str → Bool) (m k : Nat) (e : DE) : OkE P C m k e := (allE P C m k e).1
theorem GoodS.pe (g : GoodS X P C Rc m k W) {e : DE} {x : Expr} (h : mE (hasD P) C X.N X.env.scope e x = true) : PEok X P m k W e x := (okE P C m k e).v X W g.g x h
theorem GoodS.pt (g : GoodS X P C Rc m k W) {e : DE} {x : Expr} (h : mE (hasD P) C X.N X.env.scope e x = true) : PTok X P m k W e x := (okE P C m k e).t X W g.g x h
theorem GoodS.pi (g : GoodS X P C Rc m k W) {e : DE} {tg x : Expr} (h : mI (hasD P) C X.N X.env.scope e tg x = true) : PIok X P m k W e tg x := (okE P C m k e).i X W g.g tg x h
theorem GoodS.pg (g : GoodS X P C Rc m k W) {t : Tg} {x : Expr} (h : mG fnT X.N X.env.scope t x = true) : PG X x (tG (lk X) t) := gOk (fun x _ => g.fn x) g.g.nd g.g.calm t x h
theorem swapN {e : Expr} {tg : Option Expr} {n : Nat} {env : Env} (h : isLc e = false) : swapsWith e tg n env = pure false := by
  cases e <;> first | rfl | (simp [isLc] at h)
theorem isLc_mE {L : Lk} {Γ : Gm} {F C : Str → Bool} {N : List Str} {sc : Scope} {x : Expr} (hx : isLc x = true) : ∀ {e : DE}, mE F C N sc e x = true → ∃ g it c e' vs elt tg iter ifs scope pos, x = .ListComp elt [⟨tg, iter, ifs, 0⟩] scope pos ∧ mE F C N sc (.lc g it c e' vs) x = true ∧ ∀ σ H Q, tE L Γ W e σ H Q → tE L Γ W (.lc g it c e' vs) σ H Q
  | .lc g it c e' vs, h => by
    have h' := h
    unfold mE at h'
    split at h'
    · exact ⟨g, it, c, e', vs, _, _, _, _, _, _, rfl, h, fun _ _ _ q => q⟩
    · cases h'
  | .fr a, h => by
    unfold mE at h
    simp only [Bool.and_eq_true, Bool.not_eq_true'] at h
    obtain ⟨g, it, c, e', vs, elt, tg, iter, ifs, scope, pos, r1, r2, r3⟩ := isLc_mE hx h.2
    exact ⟨g, it, c, e', vs, elt, tg, iter, ifs, scope, pos, r1, r2, fun σ H Q q => r3 σ H Q (tFr h.1 σ H Q q)⟩
  | .var _, h => by exfalso; unfold mE at h; split at h <;> first | (cases h; done) | (simp [isLc] at hx; done)
  | .int _, h => by exfalso; unfold mE at h; split at h <;> first | (cases h; done) | (simp [isLc] at hx; done)
  | .bl _, h => by exfalso; unfold mE at h; split at h <;> first | (cases h; done) | (simp [isLc] at hx; done)
  | .non, h => by exfalso; unfold mE at h; split at h <;> first | (cases h; done) | (simp [isLc] at hx; done)
  | .str _, h => by exfalso; unfold mE at h; split at h <;> first | (cases h; done) | (simp [isLc] at hx; done)
  | .glob _, h => by exfalso; unfold mE at h; split at h <;> first | (cases h; done) | (simp [isLc] at hx; done)
  | .tup _, h => by exfalso; unfold mE at h; split at h <;> first | (cases h; done) | (simp [isLc] at hx; done)
  | .lst _, h => by exfalso; unfold mE at h; split at h <;> first | (cases h; done) | (simp [isLc] at hx; done)
  | .ix _ _, h => by exfalso; unfold mE at h; split at h <;> first | (cases h; done) | (simp [isLc] at hx; done)
  | .sl _ _ _, h => by exfalso; unfold mE at h; split at h <;> first | (cases h; done) | (simp [isLc] at hx; done)
  | .rev _, h => by exfalso; unfold mE at h; split at h <;> first | (cases h; done) | (simp [isLc] at hx; done)
  | .bin _ _ _, h => by exfalso; unfold mE at h; split at h <;> first | (cases h; done) | (simp [isLc] at hx; done)
  | .neg _, h => by exfalso; unfold mE at h; split at h <;> first | (cases h; done) | (simp [isLc] at hx; done)
  | .cmp _ _ _, h => by exfalso; unfold mE at h; split at h <;> first | (cases h; done) | (simp [isLc] at hx; done)
  | .chain _ _ _ _ _, h => by exfalso; unfold mE at h; split at h <;> first | (cases h; done) | (simp [isLc] at hx; done)
  | .and _ _, h => by exfalso; unfold mE at h; split at h <;> first | (cases h; done) | (simp [isLc] at hx; done)
  | .or _ _, h => by exfalso; unfold mE at h; split at h <;> first | (cases h; done) | (simp [isLc] at hx; done)
  | .not _, h => by exfalso; unfold mE at h; split at h <;> first | (cases h; done) | (simp [isLc] at hx; done)
  | .ite _ _ _, h => by exfalso; unfold mE at h; split at h <;> first | (cases h; done) | (simp [isLc] at hx; done)
  | .call _ _, h => by exfalso; unfold mE at h; split at h <;> first | (cases h; done) | (simp [isLc] at hx; done)
  | .bif _ _, h => by exfalso; unfold mE at h; split at h <;> first | (cases h; done) | (simp [isLc] at hx; done)
  | .isi _ _, h => by exfalso; unfold mE at h; split at h <;> first | (cases h; done) | (simp [isLc] at hx; done)
  | .rng _, h => by exfalso; unfold mE at h; cases h
  | .enum _, h => by exfalso; unfold mE at h; cases h
  | .zip _ _, h => by exfalso; unfold mE at h; cases h
theorem sAsgNm (g : GoodS X P C Rc m k W) {i : Nat} {e : DE} {tg x : Expr} {pos : Pos} (he : mE (hasD P) C X.N X.env.scope e x = true) (hg : mG fnT X.N X.env.scope (.nm i) tg = true) : PSok X P m k W (.asg (.nm i) e) (.Assign [tg] x pos) := by
  have fin : ∀ D σ H, tS (lk X) (gm P m k) P.mkX W m (.asg (.nm i) e) D σ H → tAsg (tE (lk X) (gm P m k) W e) (gName i) D σ H := by
    rintro D σ H ⟨G0, H0, io, ρ, G, f, I, c⟩
    rw [st] at c
    refine stE I c fun t v G1 H1 ev1 p I1 c1 => ?_
    split at c1
    · rename_i hs
      obtain ⟨fp, r, fr⟩ := Post.fresh p hs
      exact c1 _ G1 H1 _ (I.put (pl := true) p.x r fr i)
    · exact c1.elim
  cases tg <;> first | (exfalso; simp [mG] at hg; done) | skip
  rename_i y py
  rw [mG] at hg
  obtain ⟨h1, h2, h3⟩ := locB_ok (fun x _ => g.fn x) hg
  cases hl : isLc x with
  | false => exact PS.of (ps_set g.g.nd h1 h2 (g.pe he) (swapN hl) h3) fin
  | true =>
    obtain ⟨gt, it, c, e', vs, elt, tg, iter, ifs, scope, cp, rfl, he2, hcv⟩ := isLc_mE (L := lk X) (Γ := gm P m k) (W := W) hl he
    have hbk : X.env.blockKind = .function := by unfold Env.blockKind; rw [g.kd]; rfl
    have sw : swapsWith (.ListComp elt [⟨tg, iter, ifs, 0⟩] scope cp) (some (.Name y py)) pos.line X.env = pure (X.env.blockKind == .function && X.env.kindOf y == some .local && py.line == cp.line && !(scope.names.any fun (n, k) => n == y && (k == .local || k == .cell))) := rfl
    cases hq : (X.env.blockKind == .function && X.env.kindOf y == some .local && py.line == cp.line && !(scope.names.any fun (n, k) => n == y && (k == .local || k == .cell))) with
    | false =>
      rw [hq] at sw
      exact PS.of (ps_set g.g.nd h1 h2 (g.pe he) sw h3) fin
    | true =>
      rw [hq] at sw
      have hyl : X.env.scope.names.lookup y = some .local := by
        simp only [Bool.and_eq_true] at hq
        have := hq.1.1.2
        revert this
        unfold Env.kindOf
        intro this
        cases z : X.env.scope.names.lookup y with
        | none => rw [z] at this; cases this
        | some k => rw [z] at this; cases k <;> first | rfl | (cases this)
      obtain ⟨r1, r2, r3, r4, r5, r6, r7⟩ := lcParts (okE P C m k it) (allO P C m k c) (okE P C m k e') X W g.g he2
      refine PS.of (ps_setLc g.g.calm g.g.nd h1 hyl sw r1 r3 r4 r5 r6 (noSetF r2)) ?_
      rintro D σ H q
      exact r7 _ _ _ (hcv _ _ _ (fin D σ H q))
theorem sAsgTup (g : GoodS X P C Rc m k W) {gs : List Tg} {e : DE} {tg x : Expr} {pos : Pos} (he : mE (hasD P) C X.N X.env.scope e x = true) (hg : mG fnT X.N X.env.scope (.tup gs) tg = true) (ht : isTupE x = false) : PSok X P m k W (.asg (.tup gs) e) (.Assign [tg] x pos) := by
  have hg' := hg
  cases tg <;> first | (exfalso; simp [mG] at hg'; done) | skip
  rename_i es n py
  have sw : swapsWithSole [.Tuple es n py] x pos.line X.env = pure false := by
    show swapsWith x (some (.Tuple es n py)) pos.line X.env = pure false
    cases x <;> rfl
  have ss : swappedStores [.Tuple es n py] x X.env = pure none := by
    cases x <;> first | rfl | (simp [isTupE] at ht)
  refine PS.of (ps_asg (g.pe he) (g.pg hg) sw ss rfl) ?_
  rintro D σ H ⟨G0, H0, io, ρ, G, f, I, c⟩
  rw [st] at c
  refine stE I c fun t v G1 H1 ev1 p I1 c1 => ?_
  split at c1
  · cases hb : bindT (.tup gs) t ρ with
    | none => rw [hb] at c1; exact c1.elim
    | some ρ' =>
      rw [hb] at c1
      obtain ⟨fp, r, _⟩ := p.r
      cases t with
      | fz d => exact ⟨G0, H0, io, f, ρ, G1, _, ρ', I1, r.fz_inv, hb, fun σ' f' I' _ _ => c1 σ' G1 H1 f' I'⟩
      | lst _ => simp [bindT] at hb
      | tup _ => simp [bindT] at hb
      | dic _ => simp [bindT] at hb
  · exact c1.elim
theorem varM {D : Ends} {G0 H0 : Hp} {io : Addr → Prop} {ρ : Ev} {i : Nat} {fT : T → Option T} (c : CnO (lk X) W G0 H0 io D (Out.of (modV ρ (i, []) fT))) : ∃ t t', ρ[i]? = some (some ⟨true, t⟩) ∧ fT t = some t' ∧ CnO (lk X) W G0 H0 io D (.nx (ρ.set i (some ⟨true, t'⟩))) := by
  unfold modV at c
  split at c
  · rename_i t e
    simp only [modT] at c
    cases q : fT t with
    | none => rw [q] at c; exact c.elim
    | some t' => rw [q] at c; exact ⟨t, t', e, q, c⟩
  · exact c.elim
theorem sApp (g : GoodS X P C Rc m k W) {i : Nat} {e : DE} {y : Str} {x : Expr} {p1 ap cp pos : Pos} (hl : (ap.endLine == cp.line) = true) (hv : visB X.N X.env.scope i y = true) (he : mE (hasD P) C X.N X.env.scope e x = true) (hs : noStar x = true) :
    PSok X P m k W (.app (.var i) e) (.Expr (.Call (.Attribute (.Name y p1) "append" ap) [x] [] cp) pos) := by
  obtain ⟨v1, v2, v3, v4⟩ := visB_ok hv
  refine PS.of (ps_expr (pe_bm PySem.F.plainAttrs_list PySem.F.slot_list_append PySem.F.type_list_append mt_append (pe_var v1 v2 v3 v4) (pa_cons (g.pe he) pa_nil (star_cons _ _ hs)) rfl (by rw [star_cons _ _ hs]; rfl) hl (star_cons _ _ hs) rfl) rfl) ?_
  rintro D σ H ⟨G0, H0, io, ρ, G, f, I, c⟩
  rw [st] at c
  have hpth : path (gm P m k) ρ (.var i) = .ok (i, []) := rfl
  split at c
  · rename_i ho
    rw [ownL] at ho
    split at ho
    · rename_i ts hi
      rw [hpth, DP.R.out_ok] at c
      obtain ⟨v, hσ, r⟩ := I.own i _ hi
      obtain ⟨a, us, fa, rfl, hfa, ha, hu⟩ := r.lst_inv
      refine ⟨.ref a, hσ, .inl ⟨rfl, us, SqL.of ha⟩, ?_⟩
      refine stE I c fun t w G1 H1 ev1 p I1 c1 => ?_
      split at c1
      · rename_i hst
        obtain ⟨fp, rt, fr⟩ := Post.fresh p hst
        obtain ⟨t0, t', e1, e2, c2⟩ := varM c1
        rw [hi] at e1
        cases e1
        simp only [fApp] at e2
        split at e2
        · rename_i hlen
          cases e2
          have ha1 : H1 a = some (.lst us) := p.x.h _ _ ha
          refine ⟨a, us, w, rfl, rfl, ha1, by rw [hu.length]; exact hlen, ?_⟩
          have naf : a ∉ fa := by
            have := I.nd i
            rw [hfa] at this
            exact (List.nodup_cons.mp this).1
          have nap : a ∉ fp := fun z => by
            have := (fr.2 a z).1
            rw [ha] at this; cases this
          have hu1 : RTs (lk X) G1 (L2.upd H1 a (.lst (us ++ [w]))) us ts fa := hu.mono p.x.g fun b hb => by
            obtain ⟨o, q⟩ := hu.there b hb
            have hne : b ≠ a := fun z => naf (z ▸ hb)
            rw [upd_ne hne]
            exact p.x.keep q
          have hw1 : RTs (lk X) G1 (L2.upd H1 a (.lst (us ++ [w]))) [w] [t] (fp ++ []) := .cons (rt.mono (Same.refl _) fun b hb => upd_ne (fun z => nap (z ▸ hb))) .nil
          rw [List.append_nil] at hw1
          refine c2 σ G1 _ _ (I1.upd (g := a :: (fa ++ fp)) hi hσ (by rw [hfa]; exact List.mem_cons_self) (.lst upd_same (hu1.append hw1)) ?_ ?_)
          · have nd := I.nd i
            rw [hfa] at nd
            refine List.nodup_cons.mpr ⟨fun z => ?_, List.nodup_append.mpr ⟨(List.nodup_cons.mp nd).2, fr.1, fun b hb b' hb' q => ?_⟩⟩
            · rcases List.mem_append.mp z with z | z
              · exact naf z
              · exact nap z
            · subst q
              obtain ⟨o, q⟩ := hu.there b hb
              rw [(fr.2 b hb').1] at q; cases q
          · intro b hb
            rcases List.mem_cons.mp hb with z | z
            · left; rw [hfa, z]; exact List.mem_cons_self
            · rcases List.mem_append.mp z with z | z
              · left; rw [hfa]; exact List.mem_cons_of_mem _ z
              · right
                exact ⟨(fr.2 b z).2, I.h0 (fr.2 b z).1, fun j _ => I.apart (fr.2 b z).1 j⟩
        · cases e2
      · exact c1.elim
    · cases ho
  · exact c.elim
def bindO (o : Option Tg) (d : DP.D) (ρ : Ev) : Out := match o with
  | some g => Out.of (bindT g (.fz d) ρ)
  | none => .nx ρ
/-- the end of a list taken off -/
theorem popCore {D : Ends} {σ : L2.St} {H : Hp} {G0 H0 : Hp} {io : Addr → Prop} {ρ : Ev} {G : Hp} {f : Nat → List Addr} {i : Nat} {o : Option Tg} (I : SI (lk X) G0 H0 io ρ σ G H f) (c : CnO (lk X) W G0 H0 io D (st (gm P m k) P.mkX m ρ (.pop o (.var i)))) :
    ∃ (a : Addr) (us : List V) (w : V) (d : DP.D) (ρ' : Ev) (f' : Nat → List Addr), σ[i]? = some (some (.ref a)) ∧ H a = some (.lst us) ∧ us[us.length - 1]? = some w ∧ RD (lk X) G w d ∧ SI (lk X) G0 H0 io ρ' σ G (L2.upd H a (.lst us.dropLast)) f' ∧
      CnO (lk X) W G0 H0 io D (bindO o d ρ') := by
  rw [st] at c
  have hpth : path (gm P m k) ρ (.var i) = .ok (i, []) := rfl
  rw [hpth, DP.R.out_ok] at c
  cases hi : ρ[i]? with
  | none => rw [show ev (gm P m k) ρ (.var i) = .no by rw [ev, hi]] at c; exact c.elim
  | some s =>
    cases s with
    | none => rw [show ev (gm P m k) ρ (.var i) = .no by rw [ev, hi]] at c; exact c.elim
    | some s =>
      obtain ⟨own, t⟩ := s
      rw [show ev (gm P m k) ρ (.var i) = .ok t by rw [ev, hi]] at c
      rw [DP.R.out_ok] at c
      split at c
      · rename_i d hd
        cases hm : modV ρ (i, []) fPop with
        | none => rw [hm] at c; exact c.elim
        | some ρ' =>
          rw [hm] at c
          unfold modV at hm
          cases own with
          | false => rw [hi] at hm; cases hm
          | true =>
            rw [hi] at hm
            simp only [modT] at hm
            cases t with
            | fz _ => simp [lastT] at hd
            | tup _ => simp [lastT] at hd
            | dic _ => simp [lastT] at hd
            | lst ts =>
              simp only [fPop, Option.map_some, Option.some.injEq] at hm
              subst hm
              simp only [lastT] at hd
              obtain ⟨v, hσ, r⟩ := I.own i _ hi
              obtain ⟨a, us, fa, rfl, hfa, ha, hu⟩ := r.lst_inv
              obtain ⟨w, fw, h1, h2, h3⟩ := hu.get hd
              obtain ⟨fq, q1, q2⟩ := hu.dropLast
              have nd := I.nd i
              rw [hfa] at nd
              have naf : a ∉ fa := (List.nodup_cons.mp nd).1
              have naq : a ∉ fq := fun z => naf (q2.subset z)
              refine ⟨a, us, w, d, _, _, hσ, ha, by rw [hu.length]; exact h1, h2.fz_inv, I.upd (g := a :: fq) hi hσ (by rw [hfa]; exact List.mem_cons_self) (.lst upd_same (q1.mono (Same.refl _) fun b hb => upd_ne fun z => naq (z ▸ hb)))
                (List.nodup_cons.mpr ⟨naq, (List.nodup_cons.mp nd).2.sublist q2⟩) (fun b hb => .inl ?_), c⟩
              rw [hfa]
              rcases List.mem_cons.mp hb with z | z
              · rw [z]; exact List.mem_cons_self
              · exact List.mem_cons_of_mem _ (q2.subset z)
      · exact c.elim
theorem sPop (g : GoodS X P C Rc m k W) {i : Nat} {y : Str} {p1 ap cp pos : Pos} (hl : (ap.endLine == cp.line) = true) (hv : visB X.N X.env.scope i y = true) :
    PSok X P m k W (.pop none (.var i)) (.Expr (.Call (.Attribute (.Name y p1) "pop" ap) [] [] cp) pos) := by
  obtain ⟨v1, v2, v3, v4⟩ := visB_ok hv
  refine PS.of (ps_expr (pe_bm0 PySem.F.plainAttrs_list PySem.F.slot_list_pop PySem.F.type_list_pop mt_pop (pe_var v1 v2 v3 v4) rfl hl) rfl) ?_
  rintro D σ H ⟨G0, H0, io, ρ, G, f, I, c⟩
  obtain ⟨a, us, w, d, ρ', f', h1, h2, h3, h4, h5, c⟩ := popCore I c
  exact ⟨.ref a, h1, .inl ⟨rfl, us, SqL.of h2⟩, a, us, w, rfl, rfl, h2, h3, c σ G _ f' h5⟩
theorem sPopTo (g : GoodS X P C Rc m k W) {i : Nat} {t : Tg} {tg : Expr} {y : Str} {p1 ap cp pos : Pos} (hl : (ap.endLine == cp.line) = true) (hv : visB X.N X.env.scope i y = true) (hg : mG fnT X.N X.env.scope t tg = true) :
    PSok X P m k W (.pop (some t) (.var i)) (.Assign [tg] (.Call (.Attribute (.Name y p1) "pop" ap) [] [] cp) pos) := by
  obtain ⟨v1, v2, v3, v4⟩ := visB_ok hv
  have hp : PS X (.Assign [tg] (.Call (.Attribute (.Name y p1) "pop" ap) [] [] cp) pos) (tAsg (tBM0 X.K "list" rPop (tVar i)) (tG (lk X) t)) := by
    have hpe : PE X (.Call (.Attribute (.Name y p1) "pop" ap) [] [] cp) (tBM0 X.K "list" rPop (tVar i)) := pe_bm0 PySem.F.plainAttrs_list PySem.F.slot_list_pop PySem.F.type_list_pop mt_pop (pe_var v1 v2 v3 v4) rfl hl
    cases tg <;> first | exact ps_asg hpe (g.pg hg) rfl rfl rfl | (exfalso; cases t <;> simp [mG] at hg)
  refine PS.of hp ?_
  rintro D σ H ⟨G0, H0, io, ρ, G, f, I, c⟩
  obtain ⟨a, us, w, d, ρ', f', h1, h2, h3, h4, h5, c⟩ := popCore I c
  refine ⟨.ref a, h1, .inl ⟨rfl, us, SqL.of h2⟩, a, us, w, rfl, rfl, h2, h3, ?_⟩
  unfold bindO at c
  simp only at c
  cases hb : bindT t (.fz d) ρ' with
  | none => rw [hb] at c; exact c.elim
  | some ρ2 =>
    rw [hb] at c
    exact ⟨G0, H0, io, f', ρ', G, d, ρ2, h5, h4, hb, fun σ' f2 I2 _ _ => c σ' G _ f2 I2⟩
theorem sExpr (g : GoodS X P C Rc m k W) {e : DE} {x : Expr} {pos : Pos} (he : mE (hasD P) C X.N X.env.scope e x = true) (hl : isLc x = false) : PSok X P m k W (.expr e) (.Expr x pos) := by
  refine PS.of (ps_expr (g.pe he) (swapN hl)) ?_
  rintro D σ H ⟨G0, H0, io, ρ, G, f, I, c⟩
  rw [st] at c
  exact stE I c fun t v G1 H1 _ p I1 c1 => c1 σ G1 H1 f I1
theorem sIf (g : GoodS X P C Rc m k W) {c : DE} {a b : List DS} {x : Expr} {ys zs : List Stmt} {pos : Pos} (hc : mE (hasD P) C X.N X.env.scope c x = true) (ha : PSsok X P m k W a ys) (hb : PSsok X P m k W b zs) : PSok X P m k W (.ife c a b) (.If x ys zs pos) := by
  refine PS.of (ps_if (g.pt hc) ha hb) ?_
  rintro D σ H ⟨G0, H0, io, ρ, G, f, I, cc⟩
  rw [st] at cc
  refine stB I cc fun q G1 H1 I1 c1 => ?_
  cases q with
  | true =>
    rw [if_pos rfl]
    rw [if_pos rfl] at c1
    exact ⟨G0, H0, io, ρ, G1, f, I1, c1⟩
  | false =>
    rw [if_neg Bool.false_ne_true]
    rw [if_neg Bool.false_ne_true] at c1
    exact ⟨G0, H0, io, ρ, G1, f, I1, c1⟩
theorem sRetV (g : GoodS X P C Rc m k W) {i : Nat} {x : Expr} {pos : Pos} (he : mE (hasD P) C X.N X.env.scope (.var i) x = true) : PSok X P m k W (.ret (.var i)) (.Return (some x) pos) := by
  unfold mE at he
  split at he
  · obtain ⟨v1, v2, v3, v4⟩ := visB_ok he
    refine PS.of (ps_ret (pe_var v1 v2 v3 v4)) ?_
    rintro D σ H ⟨G0, H0, io, ρ, G, f, I, c⟩
    rw [st] at c
    split at c
    · rename_i t hi
      obtain ⟨v, hσ, r⟩ := I.own i t hi
      exact ⟨v, hσ, c v ρ σ G H f (f i) I r (I.nd i) fun a ha => let ⟨p, q, _⟩ := I.fr i a ha; ⟨p, q⟩⟩
    · rename_i d hi
      obtain ⟨v, fp, hσ, r, _⟩ := I.bor i _ hi
      exact ⟨v, hσ, c v ρ σ G H f [] I (.fz r.fz_inv) List.nodup_nil fun _ h => nomatch h⟩
    · exact c.elim
  · cases he
theorem sRetE (g : GoodS X P C Rc m k W) {e : DE} {x : Expr} {pos : Pos} (hv : ∀ i, e ≠ .var i) (he : mE (hasD P) C X.N X.env.scope e x = true) : PSok X P m k W (.ret e) (.Return (some x) pos) := by
  refine PS.of (ps_ret (g.pe he)) ?_
  rintro D σ H ⟨G0, H0, io, ρ, G, f, I, c⟩
  rw [st] at c
  · refine stE I c fun t v G1 H1 _ p I1 c1 => ?_
    split at c1
    · rename_i hs
      obtain ⟨fp, r, fr⟩ := Post.fresh p hs
      exact c1 v ρ σ G1 H1 f fp I1 r fr.1 fun a ha => ⟨(fr.2 a ha).2, I.h0 (fr.2 a ha).1⟩
    · exact c1.elim
  · exact hv
theorem sRet (g : GoodS X P C Rc m k W) {e : DE} {x : Expr} {pos : Pos} (he : mE (hasD P) C X.N X.env.scope e x = true) : PSok X P m k W (.ret e) (.Return (some x) pos) := by
  by_cases hv : ∃ i, e = .var i
  · obtain ⟨i, rfl⟩ := hv
    exact sRetV g he
  · exact sRetE g (fun i z => hv ⟨i, z⟩) he
theorem sRetN {pos : Pos} : PSok X P m k W .retN (.Return none pos) := by
  refine PS.of ps_retN ?_
  rintro D σ H ⟨G0, H0, io, ρ, G, f, I, c⟩
  rw [st] at c
  exact c .non ρ σ G H f [] I (.fz .non) List.nodup_nil fun _ h => nomatch h
theorem sPass {pos : Pos} : PSok X P m k W .pass (.Pass pos) := by
  refine PS.of ps_pass ?_
  rintro D σ H ⟨G0, H0, io, ρ, G, f, I, c⟩
  rw [st] at c
  exact c σ G H f I
theorem sBrk {pos : Pos} : PSok X P m k W .brk (.Break pos) := by
  refine PS.of ps_break ?_
  rintro D σ H ⟨G0, H0, io, ρ, G, f, I, c⟩
  rw [st] at c
  exact c σ G H f I
theorem sCont {pos : Pos} : PSok X P m k W .cont (.Continue pos) := by
  refine PS.of ps_continue ?_
  rintro D σ H ⟨G0, H0, io, ρ, G, f, I, c⟩
  rw [st] at c
  exact c σ G H f I
theorem sRaiseM (g : GoodS X P C Rc m k W) {c : Str} {z : Str} {j : Nat} {p p2 pos pos' : Pos} (hc : Rc c = true) (hg : glB X.env.scope c = true) : PSok X P m k W (.raiseM c) (.Raise (some (.Call (.Name c p) [.Constant (.str z) j p2] [] pos)) none pos') := by
  obtain ⟨h1, h2, h3⟩ := glB_ok hg
  obtain ⟨Cc, B, newId, initId, bmB, F, q, gC, kC, r1, r2⟩ := g.rs c hc
  refine PS.of (ps_raise g.g.calm g.g.tk (pmk_own F q gC kC (raises_own r1 r2) h1 h2)) ?_
  rintro D σ H ⟨G0, H0, io, ρ, G, f, I, cc⟩
  rw [st] at cc
  exact cc (.ref Cc) none σ G H f I ⟨Cc, gC, rfl, .inl ⟨rfl, rfl⟩⟩
theorem sFor (g : GoodS X P C Rc m k W) {t : Tg} {it : DE} {b : List DS} {tg x : Expr} {ys : List Stmt} {pos : Pos} (hi : mI (hasD P) C X.N X.env.scope it tg x = true) (hns : noSet x = true) (hg : mG fnT X.N X.env.scope t tg = true) (hb : PSsok X P m k W b ys) :
    PSok X P m k W (.for_ t it b) (.For tg x ys [] pos) := by
  refine PS.of (ps_for g.own g.g.calm (g.pi hi) (g.pg hg) hb (noSetF hns)) ?_
  rintro D σ H ⟨G0, H0, io, ρ, G, f, I, c⟩
  rw [st] at c
  refine stI I c fun ds J G1 H1 w I1 c1 => ?_
  obtain ⟨Gd, Y, wk, hgd, hy⟩ := w
  have hn : ∀ b o, G1 b = some o → G0 b = some o ∨ H0 b = none ∨ io b := I1.new
  have bk : ∀ ρ σ G H f, SI (lk X) G1 H0 io ρ σ G H f → SI (lk X) G0 H0 io ρ σ G H f := fun ρ σ G H f J => J.back I1.g0 hn
  refine for_it wk (fun i σ H => ∃ ρ G f, SI (lk X) G1 H0 io ρ σ G H f ∧ CnO (lk X) W G0 H0 io D (forGo t (fun ρ => sts (gm P m k) P.mkX m ρ b) (ds.drop i) ρ)) ⟨ρ, G1, f, I1.forth, by rw [List.drop_zero]; exact c1⟩ ?_ ?_ ?_
  · rintro i σ H _ ⟨ρ, G, f, J1, _⟩
    exact hgd H (J1.g0.trans J1.sub)
  · rintro i x σ H H' hlt ⟨ρ2, G2, f2, J1, c2⟩ y
    obtain ⟨d, hd⟩ : ∃ d, ds[i]? = some d := ⟨_, List.getElem?_eq_getElem hlt⟩
    obtain ⟨G3, x3, rd⟩ := hy i _ G2 x H' d J1.g0 J1.sub y hd
    rw [drop_cons hd, forGo] at c2
    cases hbt : bindT t (.fz d) ρ2 with
    | none => rw [hbt] at c2; exact c2.elim
    | some ρ3 =>
      rw [hbt] at c2
      simp only at c2
      refine ⟨G1, H0, io, f2, ρ2, G3, d, ρ3, J1.ext x3, rd, hbt, fun σ' f' I' _ _ => ⟨G1, H0, io, ρ3, G3, f', I', ?_⟩⟩
      cases q : sts (gm P m k) P.mkX m ρ3 b with
      | nx ρ4 =>
        rw [q] at c2
        exact fun σ4 G4 H4 f4 I4 => ⟨ρ4, G4, f4, I4, c2⟩
      | cont ρ4 =>
        rw [q] at c2
        exact fun σ4 G4 H4 f4 I4 => ⟨ρ4, G4, f4, I4, c2⟩
      | brk ρ4 =>
        rw [q] at c2
        exact fun σ4 G4 H4 f4 I4 => c2 σ4 G4 H4 f4 (bk _ _ _ _ _ I4)
      | ret t4 =>
        rw [q] at c2
        exact fun v ρ σ G H f fp I => c2 v ρ σ G H f fp (bk _ _ _ _ _ I)
      | ex x4 ρ4 =>
        rw [q] at c2
        exact fun cls d σ G H f I => c2 cls d σ G H f (bk _ _ _ _ _ I)
      | no => rw [q] at c2; exact c2
  · rintro σ H ⟨ρ2, G2, f2, J1, c2⟩
    rw [List.drop_length, forGo] at c2
    exact c2 σ G2 H f2 (bk _ _ _ _ _ J1)
theorem sWhil (g : GoodS X P C Rc m k W) {c : DE} {b : List DS} {x : Expr} {ys : List Stmt} {pos : Pos} (hc : mE (hasD P) C X.N X.env.scope c x = true) (hb : PSsok X P m k W b ys) : PSok X P m k W (.whil c b) (.While x ys [] pos) := by
  refine PS.of (ps_while g.own (g.pt hc) hb) ?_
  rintro D σ H ⟨G0, H0, io, ρ, G, f, I, cc⟩
  rw [st] at cc
  refine ⟨fun n σ H => ∃ ρ G f, SI (lk X) G0 H0 io ρ σ G H f ∧ CnO (lk X) W G0 H0 io D (whilGo (fun ρ => (ev (gm P m k) ρ c).bind asB) (fun ρ => sts (gm P m k) P.mkX m ρ b) n ρ), ⟨m, ρ, G, f, I, cc⟩, ?_⟩
  rintro n σ H ⟨ρ, G, f, I, cc⟩
  cases n with
  | zero => exact cc.elim
  | succ n =>
    rw [whilGo] at cc
    refine ⟨ρ, G, ⟨_, _, _, _, I⟩, ?_⟩
    cases q : (ev (gm P m k) ρ c).bind asB with
    | no => rw [q] at cc; exact cc
    | ex x =>
      rw [q] at cc
      exact fun cls d G' H' x rx => cc cls d σ G' H' f (I.ext x) rx
    | ok bb =>
      rw [q] at cc
      rintro b' G1 H1 ⟨x1, e⟩
      subst e
      have I1 := I.ext x1
      cases bb with
      | false =>
        rw [if_neg Bool.false_ne_true]
        exact cc σ G1 H1 f I1
      | true =>
        rw [if_pos rfl]
        simp only at cc
        refine ⟨fun σ H => ∃ ρ G f, SI (lk X) G0 H0 io ρ σ G H f ∧ CnO (lk X) W G0 H0 io D (whilGo (fun ρ => (ev (gm P m k) ρ c).bind asB) (fun ρ => sts (gm P m k) P.mkX m ρ b) n ρ), fun σ' H' w => ⟨n, Nat.lt_succ_self n, w⟩, G0, H0, io, ρ, G1, f, I1, ?_⟩
        cases q : sts (gm P m k) P.mkX m ρ b with
        | nx ρ4 =>
          rw [q] at cc
          exact fun σ4 G4 H4 f4 I4 => ⟨ρ4, G4, f4, I4, cc⟩
        | cont ρ4 =>
          rw [q] at cc
          exact fun σ4 G4 H4 f4 I4 => ⟨ρ4, G4, f4, I4, cc⟩
        | brk ρ4 =>
          rw [q] at cc
          exact fun σ4 G4 H4 f4 I4 => cc σ4 G4 H4 f4 I4
        | ret t4 => rw [q] at cc; exact cc
        | ex x4 ρ4 => rw [q] at cc; exact cc
        | no => rw [q] at cc; exact cc
end
end DP

/-! The evaluator is right: try, all statements, defs. -/
namespace DP
open PySem PySem.Spec PyProof.Rows L2
section
variable {X : Cx} {P : Pg} {C Rc : Str → Bool} {m k : Nat} {W : WX}
theorem lclB_ok {X : Cx} {i : Nat} {x : Str} (h : lclB X.N X.env.scope i x = true) : X.N[i]? = some x ∧ X.env.kindOf x = some .local ∧ (x == ("__debug__" : Str)) = false ∧ (x == ("__classdict__" : Str)) = false := by
  unfold lclB at h
  simp only [Bool.and_eq_true, decide_eq_true_eq, Bool.not_eq_true'] at h
  obtain ⟨⟨⟨h1, h2⟩, h3⟩, h4⟩ := h
  refine ⟨h1, ?_, h3, h4⟩
  split at h2
  · rename_i e; exact e
  · cases h2
theorem ClsIs.names {X : Cx} {c : Str} {v : V} {u : Value} (h : ClsIs X.mg c v u) (hg : glB X.env.scope c = true) : Names X c u := by
  obtain ⟨h1, h2, h3⟩ := glB_ok hg
  refine ⟨h1, h2, ?_⟩
  rcases h with ⟨C, rfl, rfl, hm⟩ | ⟨n, rfl, rfl, hm, hb⟩
  · exact .inl hm
  · exact .inr ⟨hm, hb, h3⟩
/-- the other wish -/
theorem GoodS.tr (g : GoodS X P C Rc m k W) {W' : WX} {pn : List (Addr × Obj)} {xe : Value → Shared → Prop} (tk : Takes (X.tr pn xe) W') (own : PassesOwn (model X.prog X.w) X.A X.env xe) : GoodS (X.tr pn xe) P C Rc m k W' :=
  ⟨⟨g.g.nd, g.g.calm, tk, g.g.room, g.g.ln⟩, g.hs, g.hf, g.hex, own, g.fn, g.kd, g.rs⟩
/-- all of a block -/
def OkSs (P : Pg) (C Rc : Str → Bool) (m k : Nat) (b : List DS) : Prop := ∀ (X : Cx) (W : WX), GoodS X P C Rc m k W → ∀ xs, mSs (hasD P) C Rc X.N X.env.scope b xs = true → PSsok X P m k W b xs
def OkS (P : Pg) (C Rc : Str → Bool) (m k : Nat) (b : DS) : Prop := ∀ (X : Cx) (W : WX), GoodS X P C Rc m k W → ∀ x, mS (hasD P) C Rc X.N X.env.scope b x = true → PSok X P m k W b x
theorem set3 {α : Type} {l : List α} {i j : Nat} {x y z : α} : ((l.set i x).set j y).set i z = (l.set j y).set i z := by
  apply List.ext_getElem?
  intro n
  by_cases h1 : n = i
  · subst h1
    by_cases hl : n < l.length
    · rw [List.getElem?_set_self (by simpa using hl), List.getElem?_set_self (by simpa using hl)]
    · rw [List.getElem?_eq_none (by simpa using hl), List.getElem?_eq_none (by simpa using hl)]
  · rw [List.getElem?_set_ne (Ne.symm h1), List.getElem?_set_ne (Ne.symm h1)]
    by_cases h2 : n = j
    · subst h2
      by_cases hl : n < l.length
      · rw [List.getElem?_set_self (by simpa using hl), List.getElem?_set_self hl]
      · rw [List.getElem?_eq_none (by simpa using hl), List.getElem?_eq_none (by simpa using hl)]
    · rw [List.getElem?_set_ne (Ne.symm h2), List.getElem?_set_ne (Ne.symm h2), List.getElem?_set_ne (Ne.symm h1)]
theorem sTryK (g : GoodS X P C Rc m k W) {b : List DS} {c : Str} {i j : Nat} {ys : List Stmt} {n z : Str} {p1 p2 p3 p4 p5 pos : Pos} (hb : OkSs P C Rc m k b) (hm : mSs (hasD P) C Rc X.N X.env.scope b ys = true) (hc : C c = true) (hg : glB X.env.scope c = true) (hi : lclB X.N X.env.scope i n = true) (hj : lclB X.N X.env.scope j z = true) :
    PSok X P m k W (.tryK b c i j) (.Try ys [.ExceptHandler (some (.Name c p1)) (some n) [.Assign [.Name z p2] (.Name n p3) p4] p5] [] [] pos) := by
  obtain ⟨i1, i2, i3, i4⟩ := lclB_ok hi
  obtain ⟨j1, j2, _, _⟩ := lclB_ok hj
  obtain ⟨v, u, hcl, _⟩ := g.g.ln.cls c hc
  refine PS.of (ps_try_keep (tb := fun W' => tSs (lk X) (gm P m k) P.mkX W' m b) g.hs g.hf g.hex g.g.nd i1 j1 i2 j2 i3 i4 (hcl.names hg) g.g.tk fun W' pn xe tk own => hb (X.tr pn xe) W' (g.tr tk own) ys hm) ?_
  rintro D σ H ⟨G0, H0, io, ρ, G, f, I, cc⟩
  rw [st] at cc
  refine ⟨G0, H0, io, ρ, G, f, I, ?_⟩
  cases q : sts (gm P m k) P.mkX m ρ b with
  | nx ρ1 => rw [q] at cc; exact cc
  | brk ρ1 => rw [q] at cc; exact cc
  | cont ρ1 => rw [q] at cc; exact cc
  | ret t => rw [q] at cc; exact cc
  | no => rw [q] at cc; exact cc
  | ex x ρ1 =>
    rw [q] at cc
    simp only at cc
    rintro cls d σ1 G1 H1 f1 I1 ⟨Cx, hx1, rfl, hx2⟩
    cases hsb : (gm P m k).sub x.cls c with
    | none => rw [hsb] at cc; exact cc.elim
    | some bb =>
      rw [hsb] at cc
      obtain ⟨Cc, v', u', hm1, hcl', he1, hk1, hE⟩ := g.g.ln.sub x.cls c bb hsb
      obtain ⟨_, e2⟩ := hcl.inj hcl'
      subst e2
      rw [hx1] at hm1
      cases hm1
      refine ⟨bb, he1, fun e a na => ?_, fun e => ?_⟩
      · subst e
        simp only at cc
        rw [set3]
        have x1 := Ext.fz (o := ExH (.ref Cx) d a) I1.sub na
        have I2 := I1.ext x1
        have rd : RD (lk X) (L2.upd G1 a (ExH (.ref Cx) d a)) (.ref a) (.exc x.cls x.fs) := by
          rcases hx2 with ⟨h1, h2⟩ | ⟨dd, fvs, h0, h1, h2, h3⟩
          · rw [h1, h2]
            exact .exc0 hx1 upd_same
          · subst h1
            have ne : dd ≠ a := ne_of_none (I1.sub _ _ h2) na
            exact .excF h0 hx1 upd_same (by rw [upd_ne ne]; exact h2) (RDf.mono x1.g h3)
        have I3 := (I2.setFz (i := j) rd).drop i
        exact cc _ _ _ _ I3
      · subst e
        exact cc (.ref Cx) d σ1 G1 H1 f1 I1 ⟨Cx, hx1, rfl, hx2⟩
theorem sTryN (g : GoodS X P C Rc m k W) {b : List DS} {c : Str} {j nn : Nat} {ys : List Stmt} {z : Str} {p1 p2 p3 p4 p5 pos : Pos} (hb : OkSs P C Rc m k b) (hm : mSs (hasD P) C Rc X.N X.env.scope b ys = true) (hc : C c = true) (hg : glB X.env.scope c = true) (hj : lclB X.N X.env.scope j z = true) :
    PSok X P m k W (.tryN b c j) (.Try ys [.ExceptHandler (some (.Name c p1)) none [.Assign [.Name z p2] (.Constant .none nn p3) p4] p5] [] [] pos) := by
  obtain ⟨j1, j2, _, _⟩ := lclB_ok hj
  obtain ⟨v, u, hcl, _⟩ := g.g.ln.cls c hc
  refine PS.of (ps_try_only (tb := fun W' => tSs (lk X) (gm P m k) P.mkX W' m b) (ts := fun _ _ _ => tAsg (tC .non) (gName j)) g.hs g.hf (hcl.names hg) g.g.tk (fun W' pn xe tk own => hb (X.tr pn xe) W' (g.tr tk own) ys hm)
    fun a oe cls d pn _ _ => pss_one (ps_set (X := X.suite a ((a, oe) :: pn)) g.g.nd j1 (.inl j2) pe_non rfl (.inr j2))) ?_
  rintro D σ H ⟨G0, H0, io, ρ, G, f, I, cc⟩
  rw [st] at cc
  refine ⟨G0, H0, io, ρ, G, f, I, ?_⟩
  cases q : sts (gm P m k) P.mkX m ρ b with
  | nx ρ1 => rw [q] at cc; exact cc
  | brk ρ1 => rw [q] at cc; exact cc
  | cont ρ1 => rw [q] at cc; exact cc
  | ret t => rw [q] at cc; exact cc
  | no => rw [q] at cc; exact cc
  | ex x ρ1 =>
    rw [q] at cc
    simp only at cc
    rintro cls d σ1 G1 H1 f1 I1 ⟨Cx, hx1, rfl, hx2⟩
    cases hsb : (gm P m k).sub x.cls c with
    | none => rw [hsb] at cc; exact cc.elim
    | some bb =>
      rw [hsb] at cc
      obtain ⟨Cc, v', u', hm1, hcl', he1, hk1, hE⟩ := g.g.ln.sub x.cls c bb hsb
      obtain ⟨_, e2⟩ := hcl.inj hcl'
      subst e2
      rw [hx1] at hm1
      cases hm1
      refine ⟨bb, he1, fun e a na => ?_, fun e => ?_⟩
      · subst e
        simp only at cc
        exact cc _ _ _ _ (I1.setFz (i := j) .non)
      · subst e
        exact cc (.ref Cx) d σ1 G1 H1 f1 I1 ⟨Cx, hx1, rfl, hx2⟩
theorem sNil : PSsok X P m k W [] [] := by
  refine PSs.of pss_nil ?_
  rintro D σ H ⟨G0, H0, io, ρ, G, f, I, c⟩
  rw [sts] at c
  exact c σ G H f I
theorem sFrz {i : Nat} {ss : List DS} {xs : List Stmt} (h : PSsok X P m k W ss xs) : PSsok X P m k W (.frz i :: ss) xs := by
  refine PSs.of h ?_
  rintro D σ H ⟨G0, H0, io, ρ, G, f, I, c⟩
  rw [sts, st] at c
  unfold frzV at c
  split at c
  · rename_i t hi
    exact ⟨G0, H0, io, _, _, _, I.frz hi, c⟩
  · exact c.elim
theorem sCons {s : DS} {ss : List DS} {x : Stmt} {xs : List Stmt} (h1 : PSok X P m k W s x) (h : PSsok X P m k W ss xs) : PSsok X P m k W (s :: ss) (x :: xs) := by
  refine PSs.of (pss_cons h1 h) ?_
  rintro D σ H ⟨G0, H0, io, ρ, G, f, I, c⟩
  rw [sts] at c
  refine ⟨G0, H0, io, ρ, G, f, I, ?_⟩
  cases q : st (gm P m k) P.mkX m ρ s with
  | nx ρ1 =>
    rw [q] at c
    exact fun σ1 G1 H1 f1 I1 => ⟨G0, H0, io, ρ1, G1, f1, I1, c⟩
  | brk ρ1 => rw [q] at c; exact c
  | cont ρ1 => rw [q] at c; exact c
  | ret t => rw [q] at c; exact c
  | no => rw [q] at c; exact c
  | ex x ρ1 => rw [q] at c; exact c
mutual
theorem allS (P : Pg) (C Rc : Str → Bool) (m k : Nat) : ∀ s : DS, OkS P C Rc m k s
  | .asg g e => fun X W gd x h => by
    unfold mS at h
    split at h
    · simp only [Bool.and_eq_true] at h
      cases g with
      | nm i => exact sAsgNm gd h.1.1 h.1.2
      | tup gs => exact sAsgTup gd h.1.1 h.1.2 (by simpa using h.2)
    · cases h
  | .app p e => fun X W gd x h => by
    unfold mS at h
    split at h
    · simp only [Bool.and_eq_true, decide_eq_true_eq] at h
      obtain ⟨⟨⟨⟨rfl, h2⟩, h3⟩, h4⟩, h5⟩ := h
      exact sApp gd h2 h3 h4 h5
    · cases h
  | .pop g p => fun X W gd x h => by
    unfold mS at h
    split at h
    · simp only [Bool.and_eq_true, decide_eq_true_eq] at h
      obtain ⟨⟨rfl, h2⟩, h3⟩ := h
      exact sPop gd h2 h3
    · simp only [Bool.and_eq_true, decide_eq_true_eq] at h
      obtain ⟨⟨⟨rfl, h2⟩, h3⟩, h4⟩ := h
      exact sPopTo gd h2 h3 h4
    · cases h
  | .ext p e => fun X W gd x h => by unfold mS at h; cases h
  | .setIx p i e => fun X W gd x h => by unfold mS at h; cases h
  | .expr e => fun X W gd x h => by
    unfold mS at h
    split at h
    · simp only [Bool.and_eq_true, Bool.not_eq_true'] at h
      exact sExpr gd h.1 h.2
    · cases h
  | .ife c a b => fun X W gd x h => by
    unfold mS at h
    split at h
    · simp only [Bool.and_eq_true] at h
      exact sIf gd h.1.1 (allSs P C Rc m k a X W gd _ h.1.2) (allSs P C Rc m k b X W gd _ h.2)
    · cases h
  | .for_ g it b => fun X W gd x h => by
    unfold mS at h
    split at h
    · simp only [Bool.and_eq_true] at h
      exact sFor gd h.1.1.1 h.1.1.2 h.1.2 (allSs P C Rc m k b X W gd _ h.2)
    · cases h
  | .whil c b => fun X W gd x h => by
    unfold mS at h
    split at h
    · simp only [Bool.and_eq_true] at h
      exact sWhil gd h.1 (allSs P C Rc m k b X W gd _ h.2)
    · cases h
  | .ret e => fun X W gd x h => by
    unfold mS at h
    split at h
    · exact sRet gd h
    · cases h
  | .retN => fun X W gd x h => by
    unfold mS at h
    split at h
    · exact sRetN
    · cases h
  | .pass => fun X W gd x h => by
    unfold mS at h
    split at h
    · exact sPass
    · cases h
  | .brk => fun X W gd x h => by
    unfold mS at h
    split at h
    · exact sBrk
    · cases h
  | .cont => fun X W gd x h => by
    unfold mS at h
    split at h
    · exact sCont
    · cases h
  | .raise c es => fun X W gd x h => by unfold mS at h; cases h
  | .raiseM c => fun X W gd x h => by
    unfold mS at h
    split at h
    · simp only [Bool.and_eq_true, decide_eq_true_eq] at h
      obtain ⟨⟨rfl, h2⟩, h3⟩ := h
      exact sRaiseM gd h2 h3
    · cases h
  | .tryK b c i j => fun X W gd x h => by
    unfold mS at h
    split at h
    · simp only [Bool.and_eq_true, decide_eq_true_eq] at h
      obtain ⟨⟨⟨⟨⟨⟨h1, rfl⟩, h3⟩, h4⟩, h5⟩, h6⟩, rfl⟩ := h
      exact sTryK gd (allSs P C Rc m k b) h1 h3 h4 h5 h6
    · cases h
  | .tryN b c j => fun X W gd x h => by
    unfold mS at h
    split at h
    · simp only [Bool.and_eq_true, decide_eq_true_eq] at h
      obtain ⟨⟨⟨⟨h1, rfl⟩, h3⟩, h4⟩, h5⟩ := h
      exact sTryN gd (allSs P C Rc m k b) h1 h3 h4 h5
    · cases h
  | .frz i => fun X W gd x h => by unfold mS at h; cases h
theorem allSs (P : Pg) (C Rc : Str → Bool) (m k : Nat) : ∀ ss : List DS, OkSs P C Rc m k ss
  | [] => fun X W gd xs h => by
    unfold mSs at h
    split at h
    · exact sNil
    · cases h
  | s :: ss => fun X W gd xs h => by
    unfold mSs at h
    split at h
    · exact sFrz (allSs P C Rc m k ss X W gd _ h)
    · simp only [Bool.and_eq_true] at h
      exact sCons (allS P C Rc m k s X W gd _ h.1) (allSs P C Rc m k ss X W gd _ h.2)
    · cases h
end
end
end DP

/-! The evaluator is right: defs, a program. -/
namespace DP
open PySem PySem.Spec PyProof.Rows L2
theorem SI.toExt {L : Lk} {G0 H0 G H : Hp} {ρ : Ev} {σ : L2.St} {f : Nat → List Addr} (I : SI L G0 H0 (fun _ => False) ρ σ G H f) : Ext G0 H0 G H :=
  ⟨I.g0, fun b o e => I.keep b o e id, I.sub, fun b o e => (I.new b o e).elim .inl fun z => z.elim .inr False.elim⟩
/-- the state at a def's entry -/
theorem SI.enter {L : Lk} {G H : Hp} {vs : List V} {ts : List T} {fp : List Addr} {N : List Str} {df : Df} (s : Same G H) (r : RTs L G H vs ts fp) (hn : N.length = df.n) (hl : ts.length ≤ df.n) :
    SI L G H (fun _ => False) (callE df ts) (start N vs) G H (fun _ => []) where
  sub := s
  g0 := Same.refl _
  keep := fun b o e _ => e
  new := fun b o e => .inl e
  len := by
    have := r.length
    simp only [L2.start, callE, List.length_append, List.length_map, List.length_replicate]
    omega
  own := fun i t e => by
    exfalso
    unfold callE at e
    by_cases h : i < ts.length
    · rw [List.getElem?_append_left (by simpa using h), List.getElem?_map, List.getElem?_eq_getElem h] at e
      simp at e
    · rw [List.getElem?_append_right (by simpa using h)] at e
      rw [List.getElem?_replicate] at e
      split at e <;> simp at e
  fr := fun _ _ h => nomatch h
  bor := fun i t e => by
    unfold callE at e
    by_cases h : i < ts.length
    · rw [List.getElem?_append_left (by simpa using h), List.getElem?_map, List.getElem?_eq_getElem h] at e
      simp at e
      subst e
      obtain ⟨v, f, h1, h2, h3⟩ := r.get (List.getElem?_eq_getElem h)
      refine ⟨v, f, ?_, h2, fun a ha => ⟨id, h2.there a ha⟩⟩
      unfold L2.start
      rw [List.getElem?_append_left (by rw [List.length_map, r.length]; exact h), List.getElem?_map, h1]
      rfl
    · rw [List.getElem?_append_right (by simpa using h)] at e
      rw [List.getElem?_replicate] at e
      split at e <;> simp at e
  nd := fun _ => List.nodup_nil
  dj := fun _ _ _ _ h => nomatch h
/-- what is told of a def: where it stands, its text -/
structure FnT (prog : Program) (w : World) (base : Heap) (L : Lk) (P : Pg) (C Rc : Str → Bool) (f : Str) (df : Df) (fa : Addr) (fd : FuncData) (ps : List Str) (N : List Str) (qual : Str) (st : Stmt) : Prop where
  mg : L.mg f = some (.ref fa)
  kp : PySem.W.keepIn L.K (.ref fa) = true
  bi : Binds L.K fd ps []
  lp : ps.length = df.ps
  ln : N.length = df.n
  le : df.ps ≤ df.n
  fn : L2.Fun L.K f qual st fa fd
  sc : FnScope N ps (defScope st)
  tx : mSs (hasD P) C Rc N (defScope st) df.body (defBody st) = true
/-- all but the defs -/
structure LnkB (L : Lk) (P : Pg) (C Rc : Str → Bool) : Prop where
  glo : ∀ x d, P.glob x = some d → ∃ v u, L.mg x = some u ∧ RelV v u ∧ RD L (fun _ => none) v d
  blt : ∀ x : Str, x ∈ (["len", "abs", "int", "tuple", "list", "all", "max", "min", "range", "enumerate", "zip", "isinstance", "bool", "str", "dict"] : List Str) → L.mg x = none
  cls : ∀ c : Str, C c = true → ∃ v u, ClsIs L.mg c v u ∧ PySem.W.kitOne L.K (.type "NoneType") u = some false
  sub : ∀ (c d : Str) (b : Bool), P.sub c d = some b → ∃ Cc v u, L.mg c = some (.ref Cc) ∧ ClsIs L.mg d v u ∧ PySem.W.exmOne L.K (.ref Cc) u = some b ∧ PySem.W.kitOne L.K (.ref Cc) u = some b ∧ ExcC L.K Cc
  rs : ∀ c, Rc c = true → RsM L.K L.mg c
section
variable {prog : Program} {w : World} {base : Heap} {L : Lk} {P : Pg} {C Rc : Str → Bool} {m k : Nat}
theorem fn_lift (ln : Lnk prog w base L P C m k) (rs : ∀ c, Rc c = true → RsM L.K L.mg c) {f : Str} {df : Df} {fa : Addr} {fd : FuncData} {ps N : List Str} {qual : Str} {st : Stmt} (hd : P.defs f = some df) (F : FnT prog w base L P C Rc f df fa fd ps N qual st) :
    FnOk prog w L.K L.mg base (L2.CX prog w) (k + 1) fa fd ps (spF L P m (k + 1) f ps.length) := by
  refine L2.Fun.okX (N := N) F.fn F.sc (fun vs H Q E h => h.1) fun cdv A outer s H vs Q E hr hsp => ?_
  obtain ⟨hl, G, ts, fp, sG, rts, c⟩ := hsp
  generalize hX : cxOf (L2.CX prog w) prog w L.K L.mg base N qual (defScope st) fa cdv A outer s H E = X
  have tk : Takes X (fun cls d _ H => E cls d H) := by
    rw [← hX]
    exact takes_of rfl rfl rfl rfl
  have own : PassesOwn (model X.prog X.w) X.A X.env X.xe := by
    rw [← hX]
    exact passes_of rfl
  have g : GoodS X P C Rc m k (fun cls d _ H => E cls d H) := by
    subst hX
    exact ⟨⟨F.sc.nd, rfl, tk, hr, ln⟩, rfl, rfl, rfl, own, fun _ => rfl, F.sc.kind, rs⟩
  have hlk : lk X = L := by subst hX; rfl
  refine ⟨tSs (lk X) (gm P m k) P.mkX (fun cls d _ H => E cls d H) m df.body, allSs P C Rc m k df.body X _ g _ (by subst hX; exact F.tx), ?_⟩
  have hts : ts.length = df.ps := by rw [← rts.length, hl, F.lp]
  rw [hlk]
  refine ⟨G, H, fun _ => False, callE df ts, G, fun _ => [], SI.enter sG rts F.ln (by have := F.le; omega), ?_⟩
  unfold callK at c
  rw [hd] at c
  simp only at c
  rw [if_pos hts] at c
  have c : CnE L (fun c d _ H' => E c d H') [] false Q G H (match sts (gm P m k) P.mkX m (callE df ts) df.body with
      | .nx _ => .ok (.fz .non)
      | .ret t => .ok t
      | .ex x _ => .ex x
      | _ => .no) := c
  cases q : sts (gm P m k) P.mkX m (callE df ts) df.body with
  | nx ρ =>
    rw [q] at c
    exact fun σ' G' H' f' I => c .non G' H' ⟨I.toExt, [], .fz .non, .inr Fresh.nil⟩
  | ret t =>
    rw [q] at c
    exact fun v ρ' σ' G' H' f' fq I r nd fr => c v G' H' ⟨I.toExt, fq, r, .inr ⟨nd, fun a ha => ⟨(fr a ha).2.elim id False.elim, (fr a ha).1⟩⟩⟩
  | ex x ρ =>
    rw [q] at c
    exact fun cls d σ' G' H' f' I rx => c cls d G' H' I.toExt rx
  | brk ρ => rw [q] at c; exact c.elim
  | cont ρ => rw [q] at c; exact c.elim
  | no => rw [q] at c; exact c.elim
theorem lnk_all (B : LnkB L P C Rc) (fns : ∀ f df, P.defs f = some df → ∃ fa fd ps N qual st, FnT prog w base L P C Rc f df fa fd ps N qual st) : ∀ k, Lnk prog w base L P C m k := by
  intro k
  induction k with
  | zero =>
    refine ⟨fun f df hd => ?_, B.glo, B.blt, B.cls, B.sub⟩
    obtain ⟨fa, fd, ps, N, qual, st, F⟩ := fns f df hd
    refine ⟨fa, fd, ps, F.mg, F.kp, F.bi, F.lp, ⟨fun vs H Q E h => h.1, fun A outer s H args us vs Q E _ _ _ _ h => ?_⟩⟩
    obtain ⟨_, G, ts, fp, _, _, c⟩ := h
    exact c.elim
  | succ k ih =>
    refine ⟨fun f df hd => ?_, B.glo, B.blt, B.cls, B.sub⟩
    obtain ⟨fa, fd, ps, N, qual, st, F⟩ := fns f df hd
    exact ⟨fa, fd, ps, F.mg, F.kp, F.bi, F.lp, fn_lift ih B.rs hd F⟩
end
end DP

/-! Plain lemmas of the evaluator. -/
namespace DP
open PySem
theorem atI_nat {α : Type} (xs : List α) (n : Nat) : L2.atI xs (n : Int) = xs[n]? := by
  unfold L2.atI L2.ixN
  rw [if_pos (by omega)]
  by_cases h : n < xs.length
  · rw [if_pos (by omega)]; simp
  · rw [if_neg (by omega)]; simp; omega
theorem atI_0 {α : Type} (a : α) (l : List α) : L2.atI (a :: l) 0 = some a := atI_nat (a :: l) 0
theorem atI_1 {α : Type} (a b : α) (l : List α) : L2.atI (a :: b :: l) 1 = some b := atI_nat (a :: b :: l) 1
theorem atI_2 {α : Type} (a b c : α) (l : List α) : L2.atI (a :: b :: c :: l) 2 = some c := atI_nat (a :: b :: c :: l) 2
theorem atI_3 {α : Type} (a b c d : α) (l : List α) : L2.atI (a :: b :: c :: d :: l) 3 = some d := atI_nat (a :: b :: c :: d :: l) 3
theorem eqD_int (i j : Int) : eqD (.int i) (.int j) = .ok (decide (i = j)) := by
  unfold eqD
  simp only [okD, py, PyData.depth, Bool.and_self, Nat.min_self, Nat.zero_le, decide_true, if_true]
  rfl
theorem dOrd_lt (i j : Int) : dOrd (fun i j => decide (i < j)) (.fz (.int i)) (.fz (.int j)) = .ok (decide (i < j)) := rfl
theorem eqD_self {d : D} (h : okD d = true) (hd : (py d).depth ≤ 64) : eqD d d = .ok true := by
  unfold eqD
  rw [h, Nat.min_self, decide_eq_true hd]
  simp only [Bool.and_self, if_true]
  rw [PySem.SeqAt.eqv_refl _ (ok_canLay d h)]
theorem lcGo_map {f : D → R (Option T)} {g : D → T} : ∀ {ds : List D}, (∀ d ∈ ds, f d = .ok (some (g d))) → lcGo f ds = .ok (ds.map g)
  | [], _ => rfl
  | d :: ds, h => by
    rw [lcGo, h d List.mem_cons_self, lcGo_map (ds := ds) fun e he => h e (List.mem_cons_of_mem _ he)]
    rfl
theorem bindT_nm (i : Nat) (t : T) (ρ : Ev) : bindT (.nm i) t ρ = some (setV ρ i t) := by rw [bindT]
theorem bindT_tup (gs : List Tg) (ds : List D) (ρ : Ev) : bindT (.tup gs) (.fz (.tup ds)) ρ = bindF gs ds ρ := by rw [bindT]
theorem bindF_nil (ρ : Ev) : bindF [] [] ρ = some ρ := by rw [bindF]
theorem bindF_cons (g : Tg) (gs : List Tg) (d : D) (ds : List D) (ρ : Ev) : bindF (g :: gs) (d :: ds) ρ = (bindT g (.fz d) ρ).bind (bindF gs ds) := by rw [bindF]
theorem ix_tup (ds : List D) (i : Int) : dIx (.fz (.tup ds)) (.fz (.int i)) = (R.of (L2.atI ds i)).map .fz := rfl
theorem ix_lst (ds : List D) (i : Int) : dIx (.fz (.lst ds)) (.fz (.int i)) = (R.of (L2.atI ds i)).map .fz := rfl
theorem ix_own (ds : List T) (i : Int) : dIx (.lst ds) (.fz (.int i)) = R.of (L2.atI ds i) := rfl
theorem ix_scr (ns : List Int) (i : Int) : dIx (.fz (.scr ns)) (.fz (.int i)) = (R.of (L2.atI ns i)).map fun n => .fz (.int n) := rfl
theorem bin_add (i j : Int) : dBin .add (.fz (.int i)) (.fz (.int j)) = .ok (.fz (.int (i + j))) := rfl
theorem bin_sub (i j : Int) : dBin .sub (.fz (.int i)) (.fz (.int j)) = .ok (.fz (.int (i - j))) := rfl
theorem eb_len (t : T) : dBif .len [t] = (dLen t).map fun n => .fz (.int n) := rfl
theorem eb_intb (b : Bool) : dBif .int [.fz (.bl b)] = .ok (.fz (.int (if b then 1 else 0))) := rfl
theorem eb_inti (i : Int) : dBif .int [.fz (.int i)] = .ok (.fz (.int i)) := rfl
theorem eb_abs (i : Int) : dBif .abs [.fz (.int i)] = .ok (.fz (.int (if i < 0 then -i else i))) := rfl
theorem eqD_nil {d : D} {ds : List D} (h : okDs (d :: ds) = true) : eqD (.lst (d :: ds)) (.lst []) = .ok false := by
  unfold eqD
  have h1 : okD (.lst (d :: ds)) = true := by rw [okD]; exact h
  have h2 : okD (.lst []) = true := by rw [okD]; rfl
  have h3 : min (py (.lst (d :: ds))).depth (py (.lst [])).depth ≤ 64 := by
    have : (py (.lst [])).depth = 1 := by rfl
    rw [this]; omega
  rw [h1, h2, decide_eq_true h3]
  simp only [Bool.and_self, if_true, py, pys, PyData.eqv, PyData.eqvAll]
theorem eqD_nilnil : eqD (.lst []) (.lst []) = .ok true := by rfl
theorem len_tup (ds : List D) : dLen (.fz (.tup ds)) = .ok ds.length := rfl
theorem len_lst (ds : List D) : dLen (.fz (.lst ds)) = .ok ds.length := rfl
theorem len_own (ds : List T) : dLen (.lst ds) = .ok ds.length := rfl
theorem ers_fz : ∀ ds : List D, ers (ds.map T.fz) = ds
  | [] => rfl
  | d :: ds => by rw [List.map_cons, ers, er, ers_fz ds]
theorem er_lst (ds : List D) : er (.lst (ds.map T.fz)) = .lst ds := by rw [er, ers_fz]
theorem bin_addl (xs ys : List D) (h : xs.length + ys.length ≤ sizeLine) : dBin .add (.fz (.lst xs)) (.fz (.lst ys)) = .ok (.lst ((xs ++ ys).map .fz)) := by
  simp only [dBin, plainL]
  rw [if_pos h]
theorem flat1 (d : D) (n : Nat) : (List.replicate n [d]).flatten = List.replicate n d := by
  induction n with
  | zero => rfl
  | succ n ih => rw [List.replicate_succ, List.replicate_succ, List.flatten_cons, ih]; rfl
theorem bin_mul1 (d : D) (n : Nat) (h : n ≤ 1000000) : dBin .mul (.fz (.lst [d])) (.fz (.int n)) = .ok (.lst ((List.replicate n d).map .fz)) := by
  have hs : (1000000 : Nat) ≤ sizeLine := by rw [sizeLine_eq]; omega
  simp only [dBin, plainL, List.length_singleton, Int.toNat_natCast, Nat.one_mul]
  rw [if_pos (decide_eq_true ⟨by omega, by omega, by omega⟩), flat1]
theorem bin_muli (i j : Int) (h : -(2 ^ 64) < i ∧ i < 2 ^ 64) : dBin .mul (.fz (.int i)) (.fz (.int j)) = .ok (.fz (.int (i * j))) := by
  simp only [dBin]
  rw [if_pos (by rw [decide_eq_true h]; rfl)]
theorem rng_nat (n : Nat) (h : n ≤ 1000000) : dRng [.fz (.int n)] = .ok ((List.range n).map fun (k : Nat) => .int (k : Int)) := by
  simp only [dRng]
  rw [if_pos (decide_eq_true ⟨by omega, by omega⟩), Int.toNat_natCast]
  unfold rngD
  simp only [Int.zero_add]
theorem lcGo_range {f : D → R (Option T)} {h : Nat → T} {n : Nat} (hf : ∀ k, k < n → f (.int (k : Int)) = .ok (some (h k))) : lcGo f ((List.range n).map fun (k : Nat) => .int (k : Int)) = .ok ((List.range n).map h) := by
  have key : ∀ l : List Nat, (∀ k ∈ l, k < n) → lcGo f (l.map fun (k : Nat) => .int (k : Int)) = .ok (l.map h) := by
    intro l
    induction l with
    | nil => exact fun _ => rfl
    | cons k l ih =>
      intro hk
      rw [List.map_cons, lcGo, hf k (hk k List.mem_cons_self), List.map_cons]
      rw [ih fun j hj => hk j (List.mem_cons_of_mem _ hj)]
      rfl
  exact key _ fun k hk => List.mem_range.mp hk
/-- [e for i in range(a)] -/
theorem ev_lcR {Γ : Gm} {ρ : Ev} {i n : Nat} {a e : DE} {vs : List Nat} {h : Nat → T} (ha : ev Γ ρ a = .ok (.fz (.int n))) (hn : n ≤ 1000) (he : ∀ k : Nat, k < n → ev Γ (setV (wipeE ρ vs) i (.fz (.int (k : Int)))) e = .ok (h k)) (hs : ∀ k, sto e (h k) = true) :
    ev Γ ρ (.lc (.nm i) (.rng [a]) none e vs) = .ok (.lst ((List.range n).map h)) := by
  have hz : (List.range n).length < sizeLine := by rw [sizeLine_eq, List.length_range]; exact Nat.lt_of_le_of_lt hn (by decide)
  have hn2 : n ≤ 1000000 := by omega
  have h0 : evs Γ ρ [a] = .ok [.fz (.int n)] := by rw [evs, evs, ha]; rfl
  have h1 : evi Γ ρ (.rng [a]) = .ok ((List.range n).map fun (k : Nat) => .int (k : Int)) := by
    rw [evi, h0, R.bind_ok]
    exact rng_nat n hn2
  have h2 : ∀ k, k < n → noEx (match bindT (.nm i) (.fz (.int (k : Int))) (wipeE ρ vs) with
      | none => .no
      | some ρ' => (evc Γ ρ' none).bind fun p => if p then (ev Γ ρ' e).bind fun x => if sto e x then .ok (some x) else .no else .ok none) = .ok (some (h k)) := by
    intro k hk
    rw [bindT_nm]
    simp only [evc, R.bind_ok, if_true, he k hk, hs k]
    rfl
  rw [ev, h1, R.bind_ok, lcGo_range h2, R.bind_ok, List.length_map, if_pos hz]
/-- one def's call -/
theorem call_is {P : Pg} {m k : Nat} {f : Str} {df : Df} {ts : List T} (h : P.defs f = some df) (hl : ts.length = df.ps) {t : T} (hb : sts ⟨P.glob, P.sub, callK P m k⟩ P.mkX m (callE df ts) df.body = .ret t) : callK P m (k + 1) f ts = .ok t := by
  rw [callK, h]
  simp only
  rw [if_pos hl, hb]
theorem call_ex {P : Pg} {m k : Nat} {f : Str} {df : Df} {ts : List T} (h : P.defs f = some df) (hl : ts.length = df.ps) {x : Xc} {ρ : Ev} (hb : sts ⟨P.glob, P.sub, callK P m k⟩ P.mkX m (callE df ts) df.body = .ex x ρ) : callK P m (k + 1) f ts = .ex x := by
  rw [callK, h]
  simp only
  rw [if_pos hl, hb]
end DP

namespace My
open PySem DP
def b_is_whole : List DS := [.ret (.and (.isi (.var 0) .int) (.not (.isi (.var 0) .bool)))]
def d_is_whole : Df := ⟨1, 1, b_is_whole⟩
def b_is_within : List DS := [.ret (.and (.call "is_whole" [.var 0]) (.chain .le .lt (.var 1) (.var 0) (.var 2)))]
def d_is_within : Df := ⟨3, 3, b_is_within⟩
def b_many_stores : List DS := [.asg (.nm 1) (.int 1), .for_ (.tup [.nm 2, .nm 3, .nm 4]) (.var 0) [.asg (.nm 1) (.bin .mul (.var 1) (.var 3))], .ret (.var 1)]
def d_many_stores : Df := ⟨1, 5, b_many_stores⟩
def b_first_store : List DS := [.ret (.bif .tuple [.fr (.lc (.tup [.nm 1, .nm 2, .nm 3]) (.var 0) none (.var 3) [1, 2, 3])])]
def d_first_store : Df := ⟨1, 4, b_first_store⟩
def b_store_by : List DS := [.asg (.nm 2) (.lst []), .for_ (.tup [.nm 3, .nm 4, .nm 5]) (.var 0) [.app (.var 2) (.bin .mod (.var 1) (.var 4)), .asg (.nm 1) (.bin .fdiv (.var 1) (.var 4))], .ret (.bif .tuple [.var 2])]
def d_store_by : Df := ⟨2, 6, b_store_by⟩
def b_put_into : List DS := [.ret (.bin .add (.fr (.bin .add (.fr (.sl (.var 0) none (some (.var 1)))) (.fr (.tup [.var 2])))) (.fr (.sl (.var 0) (some (.bin .add (.var 1) (.int 1))) none)))]
def d_put_into : Df := ⟨3, 3, b_put_into⟩
def b_first_leaf : List DS := [.asg (.tup [.nm 1, .nm 2, .nm 3]) (.var 0), .asg (.nm 4) (.fr (.bin .mul (.fr (.tup [.fr (.call "first_store" [.var 1])])) (.var 2))), .ret (.tup [.int 0, .int 0, .var 4, .var 4])]
def d_first_leaf : Df := ⟨1, 5, b_first_leaf⟩
def b_end_of : List DS := [.ret (.bif .len [.ix (.ix (.var 0) (.int 2)) (.var 1)])]
def d_end_of : Df := ⟨2, 2, b_end_of⟩
def b_is_counted : List DS := [.ret (.and (.cmp .gt (.var 1) (.int 0)) (.cmp .in_ (.ix (.ix (.ix (.ix (.var 0) (.int 2)) (.var 1)) (.var 2)) (.int 0)) (.glob "COUNTED")))]
def d_is_counted : Df := ⟨3, 3, b_is_counted⟩
def b_with_store : List DS := [.asg (.tup [.nm 2, .nm 3, .nm 4, .nm 5]) (.var 0), .ret (.tup [.var 2, .var 3, .fr (.bin .add (.fr (.bin .add (.fr (.sl (.var 4) none (some (.var 2)))) (.fr (.tup [.var 1])))) (.fr (.sl (.var 4) (some (.bin .add (.var 2) (.int 1))) none))), .var 5])]
def d_with_store : Df := ⟨2, 6, b_with_store⟩
def b_box_moves : List DS := [.ife (.cmp .eq (.ix (.var 1) (.int 0)) (.var 2)) [.ret (.lst [])] [], .asg (.nm 3) (.ix (.ix (.var 1) (.int 2)) (.ix (.var 1) (.int 0))), .asg (.nm 4) (.ix (.var 3) (.ix (.var 0) (.int 1))), .ife (.cmp .eq (.ix (.var 0) (.int 0)) (.str "put")) [.ret (.lst [.fr (.tup [.int 0, .ix (.var 0) (.int 3), .fr (.call "with_store" [.var 1, .fr (.call "put_into" [.var 3, .ix (.var 0) (.int 1), .ix (.var 0) (.int 2)])])])])] [], .ife (.cmp .eq (.ix (.var 0) (.int 0)) (.str "swap")) [.ife (.cmp .ne (.var 4) (.ix (.var 0) (.int 2))) [.ret (.lst [])] [], .ret (.lst [.fr (.tup [.int 0, .ix (.var 0) (.int 4), .fr (.call "with_store" [.var 1, .fr (.call "put_into" [.var 3, .ix (.var 0) (.int 1), .ix (.var 0) (.int 3)])])])])] [], .ife (.cmp .is (.ix (.ix (.var 0) (.int 2)) (.var 4)) (.non)) [.ret (.lst [])] [], .ret (.lst [.fr (.tup [.int 0, .ix (.ix (.var 0) (.int 2)) (.var 4), .var 1])])]
def d_box_moves : Df := ⟨3, 5, b_box_moves⟩
def b_on_moves : List DS := [.asg (.tup [.nm 5, .nm 6, .nm 7, .nm 8]) (.var 1), .ife (.cmp .eq (.var 5) (.var 2)) [.ret (.lst [.fr (.tup [.int 0, .var 4, .var 1])])] [], .asg (.nm 9) (.lst [.fr (.tup [.int 0, .ix (.var 0) (.int 1), .var 1])]), .ife (.cmp .lt (.bin .add (.var 5) (.int 1)) (.var 2)) [.app (.var 9) (.fr (.tup [.int 1, .var 3, .fr (.tup [.bin .add (.var 5) (.int 1), .var 6, .var 7, .var 8])]))] [], .app (.var 9) (.fr (.tup [.int 2, .var 4, .fr (.tup [.var 2, .var 6, .var 7, .var 8])])), .ife (.cmp .eq (.ix (.var 0) (.int 0)) (.str "find")) [.app (.var 9) (.fr (.tup [.int 3, .var 4, .fr (.tup [.var 2, .int 1, .var 7, .var 8])]))] [], .ret (.var 9)]
def d_on_moves : Df := ⟨5, 10, b_on_moves⟩
def b_opened : List DS := [.asg (.tup [.nm 3, .nm 4, .nm 5]) (.var 0), .asg (.tup [.nm 6, .nm 7, .nm 8, .nm 9]) (.var 1), .asg (.nm 10) (.lst []), .for_ (.nm 11) (.rng [.int 1, .var 4]) [.app (.var 10) (.fr (.call "store_by" [.var 3, .bin .mod (.var 2) (.fr (.call "many_stores" [.var 3]))])), .asg (.nm 2) (.bin .fdiv (.var 2) (.fr (.call "many_stores" [.var 3])))], .ret (.tup [.var 6, .var 7, .fr (.bin .add (.fr (.sl (.var 8) none (some (.int 1)))) (.fr (.bif .tuple [.var 10]))), .fr (.bin .add (.fr (.sl (.var 9) none (some (.int 1)))) (.fr (.bif .tuple [.var 10])))])]
def d_opened : Df := ⟨3, 12, b_opened⟩
def b_open_moves : List DS := [.asg (.nm 3) (.int 1), .for_ (.nm 4) (.rng [.int 1, .ix (.var 0) (.int 1)]) [.asg (.nm 3) (.fr (.bin .mul (.var 3) (.fr (.call "many_stores" [.ix (.var 0) (.int 0)]))))], .ret (.lc (.nm 5) (.rng [.var 3]) none (.fr (.tup [.var 5, .ix (.var 1) (.int 1), .fr (.call "opened" [.var 0, .var 2, .var 5])])) [5])]
def d_open_moves : Df := ⟨3, 6, b_open_moves⟩
def b_moves : List DS := [.asg (.nm 4) (.ix (.ix (.ix (.var 0) (.int 2)) (.var 1)) (.var 2)), .asg (.tup [.nm 5, .nm 6, .nm 7, .nm 8]) (.var 3), .ife (.cmp .in_ (.ix (.var 4) (.int 0)) (.tup [.str "put", .str "swap", .str "ask"])) [.ret (.call "box_moves" [.var 4, .var 3, .ix (.var 0) (.int 1)])] [], .ife (.cmp .eq (.ix (.var 4) (.int 0)) (.str "any")) [.ret (.lc (.tup [.nm 9, .nm 10]) (.enum (.ix (.var 4) (.int 1))) none (.fr (.tup [.var 9, .var 10, .var 3])) [9, 10])] [], .ife (.cmp .in_ (.ix (.var 4) (.int 0)) (.tup [.str "on", .str "find"])) [.ret (.call "on_moves" [.var 4, .var 3, .ix (.var 0) (.int 1), .var 2, .fr (.call "end_of" [.var 0, .var 1])])] [], .ife (.cmp .eq (.ix (.var 4) (.int 0)) (.str "open")) [.ret (.call "open_moves" [.var 0, .var 4, .var 3])] [], .ife (.cmp .eq (.ix (.var 4) (.int 0)) (.str "first")) [.ret (.lst [.fr (.tup [.int 0, .ix (.var 4) (.int 1), .fr (.tup [.int 0, .var 6, .var 7, .var 8])])])] [], .ife (.and (.cmp .eq (.ix (.var 4) (.int 0)) (.str "hold")) (.cmp .ne (.sl (.var 7) none (some (.neg (.int 1)))) (.sl (.var 8) (some (.int 1)) none))) [.ret (.lst [])] [], .ife (.and (.cmp .eq (.ix (.var 4) (.int 0)) (.str "known")) (.cmp .ne (.var 6) (.int 1))) [.ret (.lst [])] [], .ret (.lst [.fr (.tup [.int 0, .ix (.var 4) (.int 1), .var 3])])]
def d_moves : Df := ⟨4, 11, b_moves⟩
def b_are_stores : List DS := [.ife (.or (.not (.isi (.var 0) .tuple)) (.cmp .ne (.bif .len [.var 0]) (.var 2))) [.ret (.bl false)] [], .for_ (.nm 3) (.var 0) [.ife (.or (.not (.isi (.var 3) .tuple)) (.cmp .ne (.bif .len [.var 3]) (.bif .len [.var 1]))) [.ret (.bl false)] [], .for_ (.tup [.nm 4, .nm 5]) (.zip (.var 3) (.var 1)) [.ife (.not (.call "is_within" [.var 4, .int 0, .ix (.var 5) (.int 1)])) [.ret (.bl false)] []]], .ret (.bl true)]
def d_are_stores : Df := ⟨3, 6, b_are_stores⟩
def b_is_leaf : List DS := [.asg (.tup [.nm 2, .nm 3, .nm 4]) (.var 0), .ife (.or (.not (.isi (.var 1) .tuple)) (.cmp .ne (.bif .len [.var 1]) (.int 4))) [.ret (.bl false)] [], .ife (.or (.not (.call "is_within" [.ix (.var 1) (.int 0), .int 0, .bin .add (.var 3) (.int 1)])) (.not (.call "is_within" [.ix (.var 1) (.int 1), .int 0, .int 2]))) [.ret (.bl false)] [], .ret (.and (.call "are_stores" [.ix (.var 1) (.int 2), .var 2, .var 3]) (.call "are_stores" [.ix (.var 1) (.int 3), .var 2, .var 3]))]
def d_is_leaf : Df := ⟨2, 5, b_is_leaf⟩
def b_named_in : List DS := [.ife (.or (.not (.isi (.var 0) .tuple)) (.or (.cmp .ne (.bif .len [.var 0]) (.int 2)) (.or (.not (.isi (.ix (.var 0) (.int 0)) .str)) (.cmp .ne (.ix (.var 0) (.int 0)) (.str "way"))))) [.ret (.non)] [], .ife (.or (.not (.call "is_within" [.ix (.var 0) (.int 1), .int 0, .var 2])) (.cmp .ne (.sl (.ix (.var 1) (.ix (.var 0) (.int 1))) none (some (.int 2))) (.var 3))) [.ret (.non)] [], .ret (.ix (.var 0) (.int 1))]
def d_named_in : Df := ⟨4, 4, b_named_in⟩
def b_chosen : List DS := [.ife (.not (.call "is_whole" [.var 4])) [.ret (.non)] [], .for_ (.tup [.nm 5, .nm 6, .nm 7]) (.fr (.call "moves" [.var 0, .var 1, .var 2, .var 3])) [.ife (.cmp .eq (.var 5) (.var 4)) [.ret (.tup [.var 6, .var 7])] []], .ret (.non)]
def d_chosen : Df := ⟨5, 8, b_chosen⟩
def b_walk_of : List DS := [.asg (.tup [.nm 4, .nm 5, .nm 6]) (.ix (.var 1) (.var 2)), .asg (.nm 7) (.int 0), .asg (.nm 8) (.int 0), .asg (.nm 9) (.int 0), .for_ (.nm 10) (.var 6) [.ife (.cmp .eq (.var 7) (.call "end_of" [.var 0, .var 4])) [.ret (.non)] [], .asg (.nm 8) (.bin .add (.var 8) (.bif .int [.fr (.call "is_counted" [.var 0, .var 4, .var 7])])), .asg (.nm 9) (.bin .add (.var 9) (.int 1)), .asg (.nm 11) (.ix (.ix (.ix (.var 0) (.int 2)) (.var 4)) (.var 7)), .asg (.nm 12) (.non), .ife (.cmp .eq (.ix (.var 11) (.int 0)) (.str "call")) [.asg (.nm 13) (.fr (.call "named_in" [.var 10, .var 1, .var 2, .fr (.tup [.ix (.var 11) (.int 1), .var 5])])), .ife (.cmp .isNot (.var 13) (.non)) [.asg (.nm 12) (.fr (.tup [.ix (.var 11) (.int 2), .ix (.ix (.var 3) (.var 13)) (.int 0)])), .asg (.nm 8) (.bin .add (.var 8) (.ix (.ix (.var 3) (.var 13)) (.int 1))), .asg (.nm 9) (.bin .add (.var 9) (.ix (.ix (.var 3) (.var 13)) (.int 2)))] []] [.asg (.nm 12) (.fr (.call "chosen" [.var 0, .var 4, .var 7, .var 5, .var 10]))], .ife (.cmp .is (.var 12) (.non)) [.ret (.non)] [], .asg (.tup [.nm 7, .nm 5]) (.var 12)], .ife (.cmp .ne (.var 7) (.call "end_of" [.var 0, .var 4])) [.ret (.non)] [], .ret (.tup [.var 5, .var 8, .var 9])]
def d_walk_of : Df := ⟨4, 14, b_walk_of⟩
def b_walks_of : List DS := [.asg (.nm 2) (.lst []), .for_ (.nm 3) (.rng [.bif .len [.var 1]]) [.asg (.nm 4) (.fr (.call "walk_of" [.var 0, .var 1, .var 3, .var 2])), .ife (.cmp .is (.var 4) (.non)) [.ret (.non)] [], .app (.var 2) (.var 4)], .ret (.var 2)]
def d_walks_of : Df := ⟨2, 5, b_walks_of⟩
def b_is_way : List DS := [.ife (.or (.not (.isi (.var 1) .tuple)) (.or (.cmp .ne (.bif .len [.var 1]) (.int 3)) (.not (.call "is_within" [.ix (.var 1) (.int 0), .int 0, .bif .len [.ix (.var 0) (.int 2)]])))) [.ret (.bl false)] [], .ret (.and (.call "is_leaf" [.var 0, .ix (.var 1) (.int 1)]) (.isi (.ix (.var 1) (.int 2)) .list))]
def d_is_way : Df := ⟨2, 2, b_is_way⟩
def b_is_book : List DS := [.ife (.or (.not (.isi (.var 1) .list)) (.or (.cmp .eq (.var 1) (.lst [])) (.not (.bif .all [.fr (.lc (.nm 2) (.var 1) none (.fr (.call "is_way" [.var 0, .var 2])) [2])])))) [.ret (.bl false)] [], .ret (.and (.cmp .eq (.sl (.ix (.var 1) (.neg (.int 1))) none (some (.int 2))) (.tup [.int 0, .fr (.call "first_leaf" [.var 0])])) (.cmp .isNot (.call "walks_of" [.var 0, .var 1]) (.non)))]
def d_is_book : Df := ⟨2, 3, b_is_book⟩
def b_book_tells : List DS := [.ret (.ix (.ix (.call "walks_of" [.var 0, .var 1]) (.neg (.int 1))) (.int 1))]
def d_book_tells : Df := ⟨2, 2, b_book_tells⟩
def b_unrolled : List DS := [.ife (.cmp .gt (.ix (.ix (.call "walks_of" [.var 0, .var 1]) (.neg (.int 1))) (.int 2)) (.glob "MOST_CHOICES")) [.raiseM "TooLong"] [], .asg (.nm 2) (.lst []), .asg (.nm 3) (.lst [.fr (.tup [.bin .sub (.bif .len [.var 1]) (.int 1), .int 0])]), .whil (.cmp .ne (.var 3) (.lst [])) [.pop (some (.tup [.nm 4, .nm 5])) (.var 3), .asg (.nm 6) (.ix (.ix (.var 1) (.var 4)) (.int 2)), .ife (.cmp .lt (.var 5) (.bif .len [.var 6])) [.app (.var 3) (.fr (.tup [.var 4, .bin .add (.var 5) (.int 1)])), .ife (.isi (.ix (.var 6) (.var 5)) .tuple) [.app (.var 2) (.int 0), .app (.var 3) (.fr (.tup [.ix (.ix (.var 6) (.var 5)) (.int 1), .int 0]))] [.app (.var 2) (.ix (.var 6) (.var 5))]] []], .ret (.var 2)]
def d_unrolled : Df := ⟨2, 7, b_unrolled⟩
def b__law_digits : List DS := [.asg (.nm 3) (.bif .abs [.var 0]), .asg (.nm 4) (.cmp .ge (.var 3) (.bin .pow (.int 10) (.int 18))), .asg (.nm 5) (.bin .add (.bin .mod (.var 3) (.int 2147483647)) (.bin .mul (.int 7919) (.var 1))), .asg (.nm 6) (.lst []), .for_ (.tup [.nm 7, .nm 8]) (.enum (.var 2)) [.ife (.and (.var 4) (.cmp .gt (.var 3) (.int 0))) [.app (.var 6) (.bin .mod (.var 3) (.var 8)), .asg (.nm 3) (.bin .fdiv (.var 3) (.var 8))] [.asg (.nm 5) (.bin .mod (.bin .pow (.bin .add (.var 5) (.bin .mul (.int 104729) (.bin .add (.var 7) (.int 1)))) (.int 2)) (.int 2147483587)), .app (.var 6) (.bin .mod (.bin .fdiv (.var 5) (.int 16)) (.var 8))]], .ret (.var 6)]
def d__law_digits : Df := ⟨3, 9, b__law_digits⟩
def b__law_scroll : List DS := [.asg (.nm 4) (.fr (.bin .add (.fr (.lc (.nm 5) (.rng [.var 0]) none (.fr (.tup [.str "call", .int 1, .bin .add (.var 5) (.int 1)])) [5])) (.fr (.lc (.nm 5) (.rng [.var 1]) none (.fr (.tup [.str "first", .bin .add (.bin .add (.var 0) (.var 5)) (.int 1)])) [5])))), .asg (.nm 6) (.fr (.lc (.nm 5) (.rng [.var 2]) none (.fr (.tup [.str "call", .int 2, .bin .add (.var 5) (.int 1)])) [5])), .asg (.nm 7) (.fr (.lc (.nm 5) (.rng [.var 3]) none (.fr (.tup [.str "any", .fr (.tup [.bin .add (.var 5) (.int 1)])])) [5])), .ret (.tup [.fr (.lst [.fr (.tup [.str "a", .int 2, .int 1])]), .int 1, .fr (.lst [.var 4, .var 6, .var 7])])]
def d__law_scroll : Df := ⟨4, 8, b__law_scroll⟩
def b__law_book : List DS := [.asg (.nm 4) (.fr (.tup [.int 0, .int 0, .fr (.tup [.fr (.tup [.int 1])]), .fr (.tup [.fr (.tup [.int 1])])])), .asg (.nm 5) (.fr (.lst [.fr (.tup [.int 2, .var 4, .fr (.bin .mul (.fr (.lst [.int 0])) (.var 3))]), .fr (.tup [.int 1, .var 4, .fr (.bin .mul (.fr (.lst [.fr (.tup [.str "way", .int 0])])) (.var 2))])])), .ret (.bin .add (.var 5) (.fr (.lst [.fr (.tup [.int 0, .var 4, .fr (.bin .add (.fr (.bin .mul (.fr (.lst [.fr (.tup [.str "way", .int 1])])) (.var 0))) (.fr (.bin .mul (.fr (.lst [.int 0])) (.var 1))))])])))]
def d__law_book : Df := ⟨4, 6, b__law_book⟩
def b__law_kept : List DS := [.asg (.nm 2) (.non), .tryK [.expr (.call "unrolled" [.var 0, .var 1])] "HandError" 3 2, .asg (.nm 4) (.fr (.lst [.isi (.var 2) (.own "TooMany"), .isi (.var 2) (.own "NoRun"), .isi (.var 2) (.own "NoStep")])), .ret (.and (.isi (.var 2) (.own "TooLong")) (.and (.isi (.var 2) (.own "ValueError")) (.cmp .notIn (.bl true) (.var 4))))]
def d__law_kept : Df := ⟨2, 5, b__law_kept⟩
def b__law_right : List DS := [.asg (.nm 4) (.fr (.call "_law_scroll" [.var 0, .var 1, .var 2, .var 3])), .asg (.nm 5) (.fr (.call "_law_book" [.var 0, .var 1, .var 2, .var 3])), .asg (.nm 6) (.bin .add (.bin .mul (.var 0) (.bin .add (.int 1) (.bin .mul (.var 2) (.bin .add (.int 1) (.var 3))))) (.var 1)), .ife (.or (.cmp .isNot (.call "is_book" [.var 4, .var 5]) (.bl true)) (.cmp .ne (.call "book_tells" [.var 4, .var 5]) (.bin .mul (.bin .mul (.var 0) (.var 2)) (.bin .add (.int 1) (.var 3))))) [.ret (.bl false)] [], .asg (.nm 7) (.fr (.call "_law_scroll" [.int 1, .int 1, .int 1, .int 2])), .ife (.and (.cmp .gt (.var 6) (.int 900)) (.not (.call "_law_kept" [.var 4, .var 5]))) [.ret (.bl false)] [], .ife (.cmp .ne (.call "unrolled" [.var 7, .fr (.call "_law_book" [.int 1, .int 1, .int 1, .int 2])]) (.bin .mul (.fr (.lst [.int 0])) (.int 5))) [.ret (.bl false)] [], .ife (.cmp .gt (.var 6) (.int 900)) [.ret (.and (.call "_law_kept" [.var 4, .var 5]) (.cmp .eq (.var 5) (.call "_law_book" [.var 0, .var 1, .var 2, .var 3])))] [], .asg (.nm 8) (.fr (.call "unrolled" [.var 4, .var 5])), .ife (.or (.not (.isi (.var 8) .list)) (.cmp .ne (.lc (.nm 9) (.var 8) (some (.isi (.var 9) .bool)) (.var 9) [9]) (.lst []))) [.ret (.bl false)] [], .ret (.and (.cmp .eq (.var 8) (.bin .mul (.fr (.lst [.int 0])) (.var 6))) (.cmp .eq (.var 5) (.call "_law_book" [.var 0, .var 1, .var 2, .var 3])))]
def d__law_right : Df := ⟨4, 10, b__law_right⟩
def b__law_short_right : List DS := [.asg (.nm 0) (.fr (.call "_law_scroll" [.int 15, .int 0, .int 18, .int 18])), .asg (.nm 1) (.fr (.bin .add (.fr (.lst [.fr (.tup [.str "any", .fr (.tup [.int 1, .int 16])])])) (.fr (.lc (.nm 2) (.rng [.int 15]) none (.fr (.tup [.str "call", .int 1, .bin .add (.var 2) (.int 2)])) [2])))), .asg (.nm 0) (.fr (.tup [.ix (.var 0) (.int 0), .int 1, .fr (.bin .add (.fr (.lst [.var 1])) (.fr (.sl (.ix (.var 0) (.int 2)) (some (.int 1)) none)))])), .asg (.nm 3) (.fr (.call "_law_book" [.int 15, .int 0, .int 18, .int 18])), .asg (.nm 4) (.ix (.ix (.var 3) (.int 2)) (.int 1)), .asg (.nm 3) (.fr (.bin .add (.fr (.sl (.var 3) none (some (.int 2)))) (.fr (.lst [.fr (.tup [.int 0, .var 4, .fr (.bin .add (.fr (.lst [.int 0])) (.ix (.ix (.var 3) (.int 2)) (.int 2)))]), .fr (.tup [.int 0, .var 4, .fr (.lst [.int 1])])])))), .ife (.or (.cmp .isNot (.call "is_book" [.var 0, .var 3]) (.bl true)) (.cmp .isNot (.call "is_book" [.var 0, .fr (.sl (.var 3) none (some (.int 3)))]) (.bl true))) [.ret (.bl false)] [], .ret (.and (.call "_law_kept" [.var 0, .fr (.sl (.var 3) none (some (.int 3)))]) (.and (.cmp .eq (.call "book_tells" [.var 0, .var 3]) (.int 0)) (.cmp .eq (.call "unrolled" [.var 0, .var 3]) (.lst [.int 1]))))]
def d__law_short_right : Df := ⟨0, 5, b__law_short_right⟩
def b_law : List DS := [.ife (.not (.call "_law_short_right" [])) [.ret (.bl false)] [], .for_ (.tup [.nm 1, .nm 2, .nm 3, .nm 4]) (.fr (.lst [.fr (.tup [.int 10, .int 8, .int 8, .int 10]), .fr (.tup [.int 10, .int 9, .int 8, .int 10]), .fr (.tup [.int 9, .int 0, .int 9, .int 10]), .fr (.tup [.int 9, .int 1, .int 9, .int 10]), .fr (.tup [.int 9, .int 2, .int 9, .int 10])])) [.ife (.not (.call "_law_right" [.var 1, .var 2, .var 3, .var 4])) [.ret (.bl false)] []], .for_ (.tup [.nm 5, .nm 6]) (.enum (.bin .add (.fr (.sl (.var 0) none (some (.int 40)))) (.fr (.lst [.int 4])))) [.asg (.nm 7) (.fr (.call "_law_digits" [.var 6, .var 5, .fr (.lst [.int 15, .int 5, .int 18, .int 18])])), .ife (.not (.call "_law_right" [.bin .add (.int 1) (.ix (.var 7) (.int 0)), .ix (.var 7) (.int 1), .bin .add (.int 1) (.ix (.var 7) (.int 2)), .bin .add (.int 1) (.ix (.var 7) (.int 3))])) [.ret (.bl false)] []], .ret (.bl true)]
def d_law : Df := ⟨1, 8, b_law⟩
def defsL : List (Str × Df) := [("is_whole", d_is_whole), ("is_within", d_is_within), ("many_stores", d_many_stores), ("first_store", d_first_store), ("store_by", d_store_by), ("put_into", d_put_into), ("first_leaf", d_first_leaf), ("end_of", d_end_of), ("is_counted", d_is_counted), ("with_store", d_with_store), ("box_moves", d_box_moves), ("on_moves", d_on_moves), ("opened", d_opened), ("open_moves", d_open_moves), ("moves", d_moves), ("are_stores", d_are_stores), ("is_leaf", d_is_leaf), ("named_in", d_named_in), ("chosen", d_chosen), ("walk_of", d_walk_of), ("walks_of", d_walks_of), ("is_way", d_is_way), ("is_book", d_is_book), ("book_tells", d_book_tells), ("unrolled", d_unrolled), ("_law_digits", d__law_digits), ("_law_scroll", d__law_scroll), ("_law_book", d__law_book), ("_law_kept", d__law_kept), ("_law_right", d__law_right), ("_law_short_right", d__law_short_right), ("law", d_law)]
def globL : List (Str × DP.D) := [("COUNTED", .tup [.str "put", .str "swap", .str "ask", .str "any", .str "call"]), ("MOST_CHOICES", .int 900)]
def subL : List ((Str × Str) × Bool) := [(("TooLong", "HandError"), true), (("TooLong", "TooMany"), false), (("TooLong", "NoRun"), false), (("TooLong", "NoStep"), false), (("TooLong", "ValueError"), true), (("TooLong", "TooLong"), true)]
def clsL : List Str := ["HandError", "TooMany", "NoRun", "NoStep", "ValueError", "TooLong"]
def rsL : List Str := ["TooLong"]
def pg : Pg := ⟨fun f => defsL.lookup f, fun x => globL.lookup x, fun x c => subL.lookup (x, c), fun _ _ => none⟩
end My

namespace My
open PySem DP PyProof
def leafD : D := .tup [.int 0, .int 0, .tup [.tup [.int 1]], .tup [.tup [.int 1]]]
def SC (f s t : List D) : D := .tup [.lst [.tup [.str "a", .int 2, .int 1]], .int 1, .lst [.lst f, .lst s, .lst t]]
def BK (a0 a1 a2 : D) : D := .lst [.tup [.int 2, leafD, a0], .tup [.int 1, leafD, a1], .tup [.int 0, leafD, a2]]
theorem end_ok (M k : Nat) (a b : D) (rows : List D) (p : Nat) (r : List D) (h : rows[p]? = some (.lst r)) :
    callK pg M (k+1) "end_of" [.fz (.tup [a, b, .lst rows]), .fz (.int p)] = .ok (.fz (.int r.length)) := by
  refine call_is (df := d_end_of) rfl rfl ?_
  simp only [d_end_of, b_end_of, h, callE, sts, st, ev, evs, List.map_cons, List.map_nil, List.cons_append, List.nil_append, List.length_cons, List.length_nil, Nat.sub_self, Nat.zero_add, Nat.reduceSub, Nat.reduceAdd, List.replicate, List.getElem?_cons_zero, List.getElem?_cons_succ, R.bind_ok, R.bind_ex, R.bind_no, R.out_ok, R.out_ex, R.out_no, ix_tup, ix_lst, ix_own, ix_scr, bin_add, bin_sub, atI_0, atI_1, atI_2, atI_3, atI_nat, R.of, R.map, sto, isPl, isFz, Bool.not_true, Bool.not_false, Bool.false_or, Bool.true_or, if_true, bindT_nm, bindT_tup, bindF_nil, bindF_cons, Option.bind_some, setV, List.set_cons_zero, List.set_cons_succ, Out.of, Out.then_nx, Out.then_ret, Bool.false_eq_true, if_false, reduceIte, eb_len, eb_intb, eb_inti, eb_abs, DP.len_tup, DP.len_lst, DP.len_own, er, dCmp, asB, eqD_int, unFz, Option.map_some, Option.map_none, Nat.reduceLeDiff, isNon, dIs, Bool.and_self, decide_true, decide_false, Bool.true_eq_false]
theorem end2 (M k : Nat) (f s t : List D) : callK pg M (k+1) "end_of" [.fz (SC f s t), .fz (.int 2)] = .ok (.fz (.int t.length)) := end_ok M k _ _ [.lst f, .lst s, .lst t] 2 t rfl
theorem end1 (M k : Nat) (f s t : List D) : callK pg M (k+1) "end_of" [.fz (SC f s t), .fz (.int 1)] = .ok (.fz (.int s.length)) := end_ok M k _ _ [.lst f, .lst s, .lst t] 1 s rfl
theorem end0 (M k : Nat) (f s t : List D) : callK pg M (k+1) "end_of" [.fz (SC f s t), .fz (.int 0)] = .ok (.fz (.int f.length)) := end_ok M k _ _ [.lst f, .lst s, .lst t] 0 f rfl
theorem moves_any (M k : Nat) (f s t : List D) (q : Nat) (to : Int) (h2 : t[q]? = some (.tup [.str "any", .tup [.int to]])) :
    callK pg M (k+1) "moves" [.fz (SC f s t), .fz (.int 2), .fz (.int q), .fz leafD] = .ok (.lst [.fz (.tup [.int 0, .int to, leafD])]) := by
  refine call_is (df := d_moves) rfl rfl ?_
  rw [show d_moves.body = b_moves from rfl]
  unfold b_moves
  rw [sts]
  simp only [SC, h2, callE, sts, st, ev, evs, List.map_cons, List.map_nil, List.cons_append, List.nil_append, List.length_cons, List.length_nil, Nat.sub_self, Nat.zero_add, Nat.reduceSub, Nat.reduceAdd, List.replicate, List.getElem?_cons_zero, List.getElem?_cons_succ, R.bind_ok, R.bind_ex, R.bind_no, R.out_ok, R.out_ex, R.out_no, ix_tup, ix_lst, ix_own, ix_scr, bin_add, bin_sub, atI_0, atI_1, atI_2, atI_3, atI_nat, R.of, R.map, sto, isPl, isFz, Bool.not_true, Bool.not_false, Bool.false_or, Bool.true_or, if_true, bindT_nm, bindT_tup, bindF_nil, bindF_cons, Option.bind_some, setV, List.set_cons_zero, List.set_cons_succ, Out.of, Out.then_nx, Out.then_ret, Bool.false_eq_true, if_false, reduceIte, eb_len, eb_intb, eb_inti, eb_abs, DP.len_tup, DP.len_lst, DP.len_own, er, dCmp, asB, eqD_int, unFz, Option.map_some, Option.map_none, Nat.reduceLeDiff, isNon, dIs, Bool.and_self, decide_true, decide_false, Bool.true_eq_false]
  kernel_rfl
theorem moves_first (M k : Nat) (f s t : List D) (q : Nat) (to : Int) (h2 : f[q]? = some (.tup [.str "first", .int to])) :
    callK pg M (k+1) "moves" [.fz (SC f s t), .fz (.int 0), .fz (.int q), .fz leafD] = .ok (.lst [.fz (.tup [.int 0, .int to, leafD])]) := by
  refine call_is (df := d_moves) rfl rfl ?_
  rw [show d_moves.body = b_moves from rfl]
  unfold b_moves
  rw [sts]
  simp only [SC, h2, callE, sts, st, ev, evs, List.map_cons, List.map_nil, List.cons_append, List.nil_append, List.length_cons, List.length_nil, Nat.sub_self, Nat.zero_add, Nat.reduceSub, Nat.reduceAdd, List.replicate, List.getElem?_cons_zero, List.getElem?_cons_succ, R.bind_ok, R.bind_ex, R.bind_no, R.out_ok, R.out_ex, R.out_no, ix_tup, ix_lst, ix_own, ix_scr, bin_add, bin_sub, atI_0, atI_1, atI_2, atI_3, atI_nat, R.of, R.map, sto, isPl, isFz, Bool.not_true, Bool.not_false, Bool.false_or, Bool.true_or, if_true, bindT_nm, bindT_tup, bindF_nil, bindF_cons, Option.bind_some, setV, List.set_cons_zero, List.set_cons_succ, Out.of, Out.then_nx, Out.then_ret, Bool.false_eq_true, if_false, reduceIte, eb_len, eb_intb, eb_inti, eb_abs, DP.len_tup, DP.len_lst, DP.len_own, er, dCmp, asB, eqD_int, unFz, Option.map_some, Option.map_none, Nat.reduceLeDiff, isNon, dIs, Bool.and_self, decide_true, decide_false, Bool.true_eq_false]
  kernel_rfl
theorem chosen_ok (M k : Nat) (sc : D) (p q : Int) (to : Int) (h : callK pg M (k+1) "moves" [.fz sc, .fz (.int p), .fz (.int q), .fz leafD] = .ok (.lst [.fz (.tup [.int 0, .int to, leafD])])) :
    callK pg M (k+2) "chosen" [.fz sc, .fz (.int p), .fz (.int q), .fz leafD, .fz (.int 0)] = .ok (.fz (.tup [.int to, leafD])) := by
  refine call_is (df := d_chosen) rfl rfl ?_
  rw [show d_chosen.body = b_chosen from rfl]
  unfold b_chosen
  have hw : callK pg M (k+1) "is_whole" [.fz (.int 0)] = .ok (.fz (.bl true)) := by kernel_rfl
  simp only [h, hw, evi, ers, ers_map, itemsOf, forGo, callE, sts, st, ev, evs, List.map_cons, List.map_nil, List.cons_append, List.nil_append, List.length_cons, List.length_nil, Nat.sub_self, Nat.zero_add, Nat.reduceSub, Nat.reduceAdd, List.replicate, List.getElem?_cons_zero, List.getElem?_cons_succ, R.bind_ok, R.bind_ex, R.bind_no, R.out_ok, R.out_ex, R.out_no, ix_tup, ix_lst, ix_own, ix_scr, bin_add, bin_sub, atI_0, atI_1, atI_2, atI_3, atI_nat, R.of, R.map, sto, isPl, isFz, Bool.not_true, Bool.not_false, Bool.false_or, Bool.true_or, if_true, bindT_nm, bindT_tup, bindF_nil, bindF_cons, Option.bind_some, setV, List.set_cons_zero, List.set_cons_succ, Out.of, Out.then_nx, Out.then_ret, Bool.false_eq_true, if_false, reduceIte, eb_len, eb_intb, eb_inti, eb_abs, DP.len_tup, DP.len_lst, DP.len_own, er, dCmp, asB, eqD_int, unFz, Option.map_some, Option.map_none, Nat.reduceLeDiff, isNon, dIs, Bool.and_self, decide_true, decide_false, Bool.true_eq_false]
  kernel_rfl
theorem counted2 (M k : Nat) (f s t : List D) (q : Nat) (to : Int) (h2 : t[q]? = some (.tup [.str "any", .tup [.int to]])) :
    callK pg M (k+1) "is_counted" [.fz (SC f s t), .fz (.int 2), .fz (.int q)] = .ok (.fz (.bl true)) := by
  refine call_is (df := d_is_counted) rfl rfl ?_
  rw [show d_is_counted.body = b_is_counted from rfl]
  unfold b_is_counted
  simp only [SC, h2, callE, sts, st, ev, evs, List.map_cons, List.map_nil, List.cons_append, List.nil_append, List.length_cons, List.length_nil, Nat.sub_self, Nat.zero_add, Nat.reduceSub, Nat.reduceAdd, List.replicate, List.getElem?_cons_zero, List.getElem?_cons_succ, R.bind_ok, R.bind_ex, R.bind_no, R.out_ok, R.out_ex, R.out_no, ix_tup, ix_lst, ix_own, ix_scr, bin_add, bin_sub, atI_0, atI_1, atI_2, atI_3, atI_nat, R.of, R.map, sto, isPl, isFz, Bool.not_true, Bool.not_false, Bool.false_or, Bool.true_or, if_true, bindT_nm, bindT_tup, bindF_nil, bindF_cons, Option.bind_some, setV, List.set_cons_zero, List.set_cons_succ, Out.of, Out.then_nx, Out.then_ret, Bool.false_eq_true, if_false, reduceIte, eb_len, eb_intb, eb_inti, eb_abs, DP.len_tup, DP.len_lst, DP.len_own, er, dCmp, asB, eqD_int, unFz, Option.map_some, Option.map_none, Nat.reduceLeDiff, isNon, dIs, Bool.and_self, decide_true, decide_false, Bool.true_eq_false]
  kernel_rfl
theorem counted1 (M k : Nat) (f s t : List D) (q : Nat) (b c : D) (h2 : s[q]? = some (.tup [.str "call", b, c])) :
    callK pg M (k+1) "is_counted" [.fz (SC f s t), .fz (.int 1), .fz (.int q)] = .ok (.fz (.bl true)) := by
  refine call_is (df := d_is_counted) rfl rfl ?_
  rw [show d_is_counted.body = b_is_counted from rfl]
  unfold b_is_counted
  simp only [SC, h2, callE, sts, st, ev, evs, List.map_cons, List.map_nil, List.cons_append, List.nil_append, List.length_cons, List.length_nil, Nat.sub_self, Nat.zero_add, Nat.reduceSub, Nat.reduceAdd, List.replicate, List.getElem?_cons_zero, List.getElem?_cons_succ, R.bind_ok, R.bind_ex, R.bind_no, R.out_ok, R.out_ex, R.out_no, ix_tup, ix_lst, ix_own, ix_scr, bin_add, bin_sub, atI_0, atI_1, atI_2, atI_3, atI_nat, R.of, R.map, sto, isPl, isFz, Bool.not_true, Bool.not_false, Bool.false_or, Bool.true_or, if_true, bindT_nm, bindT_tup, bindF_nil, bindF_cons, Option.bind_some, setV, List.set_cons_zero, List.set_cons_succ, Out.of, Out.then_nx, Out.then_ret, Bool.false_eq_true, if_false, reduceIte, eb_len, eb_intb, eb_inti, eb_abs, DP.len_tup, DP.len_lst, DP.len_own, er, dCmp, asB, eqD_int, unFz, Option.map_some, Option.map_none, Nat.reduceLeDiff, isNon, dIs, Bool.and_self, decide_true, decide_false, Bool.true_eq_false]
  kernel_rfl
theorem counted0 (M k : Nat) (sc : D) (q : Int) :
    callK pg M (k+1) "is_counted" [.fz sc, .fz (.int 0), .fz (.int q)] = .ok (.fz (.bl false)) := by
  refine call_is (df := d_is_counted) rfl rfl ?_
  kernel_rfl
theorem named1 (M k : Nat) (a0 a1 a2 : D) : callK pg M (k+3) "named_in" [.fz (.tup [.str "way", .int 0]), .fz (BK a0 a1 a2), .fz (.int 1), .fz (.tup [.int 2, leafD])] = .ok (.fz (.int 0)) := by kernel_rfl
theorem named0 (M k : Nat) (a0 a1 a2 : D) : callK pg M (k+3) "named_in" [.fz (.tup [.str "way", .int 1]), .fz (BK a0 a1 a2), .fz (.int 2), .fz (.tup [.int 1, leafD])] = .ok (.fz (.int 1)) := by kernel_rfl
def bodyW : List DS := [.ife (.cmp .eq (.var 7) (.call "end_of" [.var 0, .var 4])) [.ret (.non)] [], .asg (.nm 8) (.bin .add (.var 8) (.bif .int [.fr (.call "is_counted" [.var 0, .var 4, .var 7])])), .asg (.nm 9) (.bin .add (.var 9) (.int 1)), .asg (.nm 11) (.ix (.ix (.ix (.var 0) (.int 2)) (.var 4)) (.var 7)), .asg (.nm 12) (.non), .ife (.cmp .eq (.ix (.var 11) (.int 0)) (.str "call")) [.asg (.nm 13) (.fr (.call "named_in" [.var 10, .var 1, .var 2, .fr (.tup [.ix (.var 11) (.int 1), .var 5])])), .ife (.cmp .isNot (.var 13) (.non)) [.asg (.nm 12) (.fr (.tup [.ix (.var 11) (.int 2), .ix (.ix (.var 3) (.var 13)) (.int 0)])), .asg (.nm 8) (.bin .add (.var 8) (.ix (.ix (.var 3) (.var 13)) (.int 1))), .asg (.nm 9) (.bin .add (.var 9) (.ix (.ix (.var 3) (.var 13)) (.int 2)))] []] [.asg (.nm 12) (.fr (.call "chosen" [.var 0, .var 4, .var 7, .var 5, .var 10]))], .ife (.cmp .is (.var 12) (.non)) [.ret (.non)] [], .asg (.tup [.nm 7, .nm 5]) (.var 12)]
def ρW (sc bk : D) (number : Int) (walks : T) (p : Int) (deeds : D) (place ct mn : Int) (j10 j11 j12 j13 : Option Slot) : Ev :=
  [some ⟨false, .fz sc⟩, some ⟨false, .fz bk⟩, some ⟨false, .fz (.int number)⟩, some ⟨false, walks⟩, some ⟨true, .fz (.int p)⟩, some ⟨true, .fz leafD⟩, some ⟨true, .fz deeds⟩, some ⟨true, .fz (.int place)⟩, some ⟨true, .fz (.int ct)⟩, some ⟨true, .fz (.int mn)⟩, j10, j11, j12, j13]
def ownS (d : D) : Option Slot := some ⟨true, .fz d⟩
theorem step_any (M k : Nat) (f s t : List D) (bk : D) (number : Int) (walks : T) (deeds : D) (p : Nat) (ct mn : Int) (j11 j12 j13 : Option Slot) (hp : p < t.length) (h2 : t[p]? = some (.tup [.str "any", .tup [.int ((p + 1 : Nat) : Int)]])) :
    sts ⟨pg.glob, pg.sub, callK pg M (k+3)⟩ pg.mkX M (ρW (SC f s t) bk number walks 2 deeds p ct mn (ownS (.int 0)) j11 j12 j13) bodyW =
      .nx (ρW (SC f s t) bk number walks 2 deeds ((p + 1 : Nat) : Int) (ct + 1) (mn + 1) (ownS (.int 0)) (ownS (.tup [.str "any", .tup [.int ((p + 1 : Nat) : Int)]])) (ownS (.tup [.int ((p + 1 : Nat) : Int), leafD])) j13) := by
  have e := end2 M (k+2) f s t
  have c := counted2 M (k+2) f s t p _ h2
  have ch := chosen_ok M (k+1) (SC f s t) 2 p _ (moves_any M (k+1) f s t p _ h2)
  have hne : decide ((p : Int) = (t.length : Int)) = false := decide_eq_false (by omega)
  unfold bodyW ρW ownS
  simp only [SC, e, c, ch, hne, h2, callE, sts, st, ev, evs, List.map_cons, List.map_nil, List.cons_append, List.nil_append, List.length_cons, List.length_nil, Nat.sub_self, Nat.zero_add, Nat.reduceSub, Nat.reduceAdd, List.replicate, List.getElem?_cons_zero, List.getElem?_cons_succ, R.bind_ok, R.bind_ex, R.bind_no, R.out_ok, R.out_ex, R.out_no, ix_tup, ix_lst, ix_own, ix_scr, bin_add, bin_sub, atI_0, atI_1, atI_2, atI_3, atI_nat, R.of, R.map, sto, isPl, isFz, Bool.not_true, Bool.not_false, Bool.false_or, Bool.true_or, if_true, bindT_nm, bindT_tup, bindF_nil, bindF_cons, Option.bind_some, setV, List.set_cons_zero, List.set_cons_succ, Out.of, Out.then_nx, Out.then_ret, Bool.false_eq_true, if_false, reduceIte, eb_len, eb_intb, eb_inti, eb_abs, DP.len_tup, DP.len_lst, DP.len_own, er, dCmp, asB, eqD_int, unFz, Option.map_some, Option.map_none, Nat.reduceLeDiff, isNon, dIs, Bool.and_self, decide_true, decide_false, Bool.true_eq_false] at e c ch ⊢
  kernel_rfl

theorem eq_cc : eqD (.str "call") (.str "call") = .ok true := by kernel_rfl
theorem eq_fc : eqD (.str "first") (.str "call") = .ok false := by kernel_rfl
theorem step_call1 (M k : Nat) (f s t : List D) (a0 a1 a2 : D) (deeds : D) (c0 m0 : Int) (p : Nat) (ct mn : Int) (j11 j12 j13 : Option Slot) (hp : p < s.length) (h2 : s[p]? = some (.tup [.str "call", .int 2, .int ((p + 1 : Nat) : Int)])) :
    sts ⟨pg.glob, pg.sub, callK pg M (k+3)⟩ pg.mkX M (ρW (SC f s t) (BK a0 a1 a2) 1 (.lst [.fz (.tup [leafD, .int c0, .int m0])]) 1 deeds p ct mn (ownS (.tup [.str "way", .int 0])) j11 j12 j13) bodyW =
      .nx (ρW (SC f s t) (BK a0 a1 a2) 1 (.lst [.fz (.tup [leafD, .int c0, .int m0])]) 1 deeds ((p + 1 : Nat) : Int) (ct + 1 + c0) (mn + 1 + m0) (ownS (.tup [.str "way", .int 0])) (ownS (.tup [.str "call", .int 2, .int ((p + 1 : Nat) : Int)])) (ownS (.tup [.int ((p + 1 : Nat) : Int), leafD])) (ownS (.int 0))) := by
  have e := end1 M (k+2) f s t
  have c := counted1 M (k+2) f s t p _ _ h2
  have nm := named1 M k a0 a1 a2
  have hne : decide ((p : Int) = (s.length : Int)) = false := decide_eq_false (by omega)
  unfold bodyW ρW ownS
  simp only [SC, e, c, nm, hne, h2, eq_cc, callE, sts, st, ev, evs, List.map_cons, List.map_nil, List.cons_append, List.nil_append, List.length_cons, List.length_nil, Nat.sub_self, Nat.zero_add, Nat.reduceSub, Nat.reduceAdd, List.replicate, List.getElem?_cons_zero, List.getElem?_cons_succ, R.bind_ok, R.bind_ex, R.bind_no, R.out_ok, R.out_ex, R.out_no, ix_tup, ix_lst, ix_own, ix_scr, bin_add, bin_sub, atI_0, atI_1, atI_2, atI_3, atI_nat, R.of, R.map, sto, isPl, isFz, Bool.not_true, Bool.not_false, Bool.false_or, Bool.true_or, if_true, bindT_nm, bindT_tup, bindF_nil, bindF_cons, Option.bind_some, setV, List.set_cons_zero, List.set_cons_succ, Out.of, Out.then_nx, Out.then_ret, Bool.false_eq_true, if_false, reduceIte, eb_len, eb_intb, eb_inti, eb_abs, DP.len_tup, DP.len_lst, DP.len_own, er, dCmp, asB, eqD_int, unFz, Option.map_some, Option.map_none, Nat.reduceLeDiff, isNon, dIs, Bool.and_self, decide_true, decide_false, Bool.true_eq_false] at e c ⊢
theorem step_call0 (M k : Nat) (f s t : List D) (a0 a1 a2 : D) (deeds : D) (w0 : T) (c0 m0 : Int) (p : Nat) (ct mn : Int) (j11 j12 j13 : Option Slot) (hp : p < f.length) (h2 : f[p]? = some (.tup [.str "call", .int 1, .int ((p + 1 : Nat) : Int)])) :
    sts ⟨pg.glob, pg.sub, callK pg M (k+3)⟩ pg.mkX M (ρW (SC f s t) (BK a0 a1 a2) 2 (.lst [w0, .fz (.tup [leafD, .int c0, .int m0])]) 0 deeds p ct mn (ownS (.tup [.str "way", .int 1])) j11 j12 j13) bodyW =
      .nx (ρW (SC f s t) (BK a0 a1 a2) 2 (.lst [w0, .fz (.tup [leafD, .int c0, .int m0])]) 0 deeds ((p + 1 : Nat) : Int) (ct + 0 + c0) (mn + 1 + m0) (ownS (.tup [.str "way", .int 1])) (ownS (.tup [.str "call", .int 1, .int ((p + 1 : Nat) : Int)])) (ownS (.tup [.int ((p + 1 : Nat) : Int), leafD])) (ownS (.int 1))) := by
  have e := end0 M (k+2) f s t
  have c := counted0 M (k+2) (SC f s t) p
  have nm := named0 M k a0 a1 a2
  have hne : decide ((p : Int) = (f.length : Int)) = false := decide_eq_false (by omega)
  unfold bodyW ρW ownS
  simp only [SC, e, c, nm, hne, h2, eq_cc, callE, sts, st, ev, evs, List.map_cons, List.map_nil, List.cons_append, List.nil_append, List.length_cons, List.length_nil, Nat.sub_self, Nat.zero_add, Nat.reduceSub, Nat.reduceAdd, List.replicate, List.getElem?_cons_zero, List.getElem?_cons_succ, R.bind_ok, R.bind_ex, R.bind_no, R.out_ok, R.out_ex, R.out_no, ix_tup, ix_lst, ix_own, ix_scr, bin_add, bin_sub, atI_0, atI_1, atI_2, atI_3, atI_nat, R.of, R.map, sto, isPl, isFz, Bool.not_true, Bool.not_false, Bool.false_or, Bool.true_or, if_true, bindT_nm, bindT_tup, bindF_nil, bindF_cons, Option.bind_some, setV, List.set_cons_zero, List.set_cons_succ, Out.of, Out.then_nx, Out.then_ret, Bool.false_eq_true, if_false, reduceIte, eb_len, eb_intb, eb_inti, eb_abs, DP.len_tup, DP.len_lst, DP.len_own, er, dCmp, asB, eqD_int, unFz, Option.map_some, Option.map_none, Nat.reduceLeDiff, isNon, dIs, Bool.and_self, decide_true, decide_false, Bool.true_eq_false] at e c ⊢
theorem step_first (M k : Nat) (f s t : List D) (bk : D) (number : Int) (walks : T) (deeds : D) (p : Nat) (ct mn : Int) (j11 j12 j13 : Option Slot) (hp : p < f.length) (h2 : f[p]? = some (.tup [.str "first", .int ((p + 1 : Nat) : Int)])) :
    sts ⟨pg.glob, pg.sub, callK pg M (k+3)⟩ pg.mkX M (ρW (SC f s t) bk number walks 0 deeds p ct mn (ownS (.int 0)) j11 j12 j13) bodyW =
      .nx (ρW (SC f s t) bk number walks 0 deeds ((p + 1 : Nat) : Int) (ct + 0) (mn + 1) (ownS (.int 0)) (ownS (.tup [.str "first", .int ((p + 1 : Nat) : Int)])) (ownS (.tup [.int ((p + 1 : Nat) : Int), leafD])) j13) := by
  have e := end0 M (k+2) f s t
  have c := counted0 M (k+2) (SC f s t) p
  have ch := chosen_ok M (k+1) (SC f s t) 0 p _ (moves_first M (k+1) f s t p _ h2)
  have hne : decide ((p : Int) = (f.length : Int)) = false := decide_eq_false (by omega)
  unfold bodyW ρW ownS
  simp only [SC, e, c, ch, hne, h2, eq_fc, callE, sts, st, ev, evs, List.map_cons, List.map_nil, List.cons_append, List.nil_append, List.length_cons, List.length_nil, Nat.sub_self, Nat.zero_add, Nat.reduceSub, Nat.reduceAdd, List.replicate, List.getElem?_cons_zero, List.getElem?_cons_succ, R.bind_ok, R.bind_ex, R.bind_no, R.out_ok, R.out_ex, R.out_no, ix_tup, ix_lst, ix_own, ix_scr, bin_add, bin_sub, atI_0, atI_1, atI_2, atI_3, atI_nat, R.of, R.map, sto, isPl, isFz, Bool.not_true, Bool.not_false, Bool.false_or, Bool.true_or, if_true, bindT_nm, bindT_tup, bindF_nil, bindF_cons, Option.bind_some, setV, List.set_cons_zero, List.set_cons_succ, Out.of, Out.then_nx, Out.then_ret, Bool.false_eq_true, if_false, reduceIte, eb_len, eb_intb, eb_inti, eb_abs, DP.len_tup, DP.len_lst, DP.len_own, er, dCmp, asB, eqD_int, unFz, Option.map_some, Option.map_none, Nat.reduceLeDiff, isNon, dIs, Bool.and_self, decide_true, decide_false, Bool.true_eq_false] at e c ch ⊢
/-- many like deeds -/
theorem go_rep {Γ : Gm} {M : Nat} {d : D} {R : Nat → Ev → Prop} {n : Nat} : ∀ {p : Nat} {ρ : Ev} (rest : List D), R p ρ → (∀ q ρ, p ≤ q → q < p + n → R q ρ → ∃ ρ', sts Γ pg.mkX M (setV ρ 10 (.fz d)) bodyW = .nx ρ' ∧ R (q + 1) ρ') →
    ∃ ρ', R (p + n) ρ' ∧ forGo (.nm 10) (fun ρ => sts Γ pg.mkX M ρ bodyW) (List.replicate n d ++ rest) ρ = forGo (.nm 10) (fun ρ => sts Γ pg.mkX M ρ bodyW) rest ρ' := by
  induction n with
  | zero => exact fun {p ρ} rest h _ => ⟨ρ, h, rfl⟩
  | succ n ih =>
    intro p ρ rest h st
    obtain ⟨ρ1, e1, h1⟩ := st p ρ (Nat.le_refl _) (by omega) h
    obtain ⟨ρ2, h2, e2⟩ := ih rest h1 fun q ρ a b r => st q ρ (by omega) (by omega) r
    refine ⟨ρ2, by rw [show p + (n + 1) = p + 1 + n by omega]; exact h2, ?_⟩
    rw [List.replicate_succ, List.cons_append, forGo, bindT_nm]
    simp only
    rw [e1]
    exact e2
def IsW (sc bk : D) (number : Int) (walks : T) (p : Int) (deeds : D) (place ct mn : Int) (ρ : Ev) : Prop := ∃ j10 j11 j12 j13, ρ = ρW sc bk number walks p deeds place ct mn j10 j11 j12 j13
/-- walk_of, its loop told -/
theorem walk_shape (M k : Nat) (sc bk : D) (number : Nat) (walks : T) (p : Int) (ds : List D) (bks : List D) (hb : bk = .lst bks) (h1 : bks[number]? = some (.tup [.int p, leafD, .lst ds])) (place ct mn : Int)
    (h2 : ∃ ρ', IsW sc bk number walks p (.lst ds) place ct mn ρ' ∧ forGo (.nm 10) (fun ρ => sts ⟨pg.glob, pg.sub, callK pg M (k+3)⟩ pg.mkX M ρ bodyW) ds (ρW sc bk number walks p (.lst ds) 0 0 0 none none none none) = .nx ρ')
    (h3 : callK pg M (k+3) "end_of" [.fz sc, .fz (.int p)] = .ok (.fz (.int place))) :
    callK pg M (k+4) "walk_of" [.fz sc, .fz bk, .fz (.int number), walks] = .ok (.fz (.tup [leafD, .int ct, .int mn])) := by
  obtain ⟨ρ', ⟨j10, j11, j12, j13, rfl⟩, h2⟩ := h2
  refine call_is (df := d_walk_of) rfl rfl ?_
  rw [show d_walk_of.body = [.asg (.tup [.nm 4, .nm 5, .nm 6]) (.ix (.var 1) (.var 2)), .asg (.nm 7) (.int 0), .asg (.nm 8) (.int 0), .asg (.nm 9) (.int 0), .for_ (.nm 10) (.var 6) bodyW, .ife (.cmp .ne (.var 7) (.call "end_of" [.var 0, .var 4])) [.ret (.non)] [], .ret (.tup [.var 5, .var 8, .var 9])] from rfl]
  subst hb
  have hd : decide (place = place) = true := decide_eq_true rfl
  unfold leafD at h1 ⊢
  unfold ρW leafD at h2
  simp only [h1, h2, h3, hd, d_walk_of, evi, itemsOf, callE, sts, st, ev, evs, List.map_cons, List.map_nil, List.cons_append, List.nil_append, List.length_cons, List.length_nil, Nat.sub_self, Nat.zero_add, Nat.reduceSub, Nat.reduceAdd, List.replicate, List.getElem?_cons_zero, List.getElem?_cons_succ, R.bind_ok, R.bind_ex, R.bind_no, R.out_ok, R.out_ex, R.out_no, ix_tup, ix_lst, ix_own, ix_scr, bin_add, bin_sub, atI_0, atI_1, atI_2, atI_3, atI_nat, R.of, R.map, sto, isPl, isFz, Bool.not_true, Bool.not_false, Bool.false_or, Bool.true_or, if_true, bindT_nm, bindT_tup, bindF_nil, bindF_cons, Option.bind_some, setV, List.set_cons_zero, List.set_cons_succ, Out.of, Out.then_nx, Out.then_ret, Bool.false_eq_true, if_false, reduceIte, eb_len, eb_intb, eb_inti, eb_abs, DP.len_tup, DP.len_lst, DP.len_own, er, dCmp, asB, eqD_int, unFz, Option.map_some, Option.map_none, Nat.reduceLeDiff, isNon, dIs, Bool.and_self, decide_true, decide_false, Bool.true_eq_false]

def rowA (k : Nat) : D := .tup [.str "any", .tup [.int ((k + 1 : Nat) : Int)]]
def rowC (p : Int) (k : Nat) : D := .tup [.str "call", .int p, .int ((k + 1 : Nat) : Int)]
def rowF (k : Nat) : D := .tup [.str "first", .int ((k + 1 : Nat) : Int)]
def W0 (l : Nat) : D := .tup [leafD, .int l, .int l]
def W1 (i l : Nat) : D := .tup [leafD, .int (i * (1 + l)), .int (i * (1 + l))]
def W2 (c m i l : Nat) : D := .tup [leafD, .int (c * (i * (1 + l))), .int (c * (1 + i * (1 + l)) + m)]
theorem succ_mul (q : Nat) (x : Int) : ((q + 1 : Nat) : Int) * x = q * x + x := by rw [Int.natCast_succ, Int.add_mul, Int.one_mul]
theorem isW {sc bk : D} {number : Int} {walks : T} {p : Int} {deeds : D} {place ct mn ct' mn' : Int} {j10 j11 j12 j13 : Option Slot} (h2 : ct = ct') (h3 : mn = mn') : IsW sc bk number walks p deeds place ct' mn' (ρW sc bk number walks p deeds place ct mn j10 j11 j12 j13) := by
  subst h2 h3
  exact ⟨_, _, _, _, rfl⟩
theorem walk0 (M k : Nat) (f s t : List D) (a1 a2 : D) (walks : T) (ht : ∀ p, p < t.length → t[p]? = some (rowA p)) :
    callK pg M (k+4) "walk_of" [.fz (SC f s t), .fz (BK (.lst (List.replicate t.length (.int 0))) a1 a2), .fz (.int 0), walks] = .ok (.fz (W0 t.length)) := by
  refine walk_shape M k (SC f s t) _ 0 walks 2 (List.replicate t.length (.int 0)) _ rfl rfl t.length t.length t.length ?_ (end2 M (k+2) f s t)
  have hst : ∀ (q : Nat) (ρ : Ev), 0 ≤ q → q < 0 + t.length → IsW (SC f s t) (BK (.lst (List.replicate t.length (.int 0))) a1 a2) 0 walks 2 (.lst (List.replicate t.length (.int 0))) q q q ρ → ∃ ρ', sts ⟨pg.glob, pg.sub, callK pg M (k+3)⟩ pg.mkX M (setV ρ 10 (.fz (.int 0))) bodyW = .nx ρ' ∧ IsW (SC f s t) (BK (.lst (List.replicate t.length (.int 0))) a1 a2) 0 walks 2 (.lst (List.replicate t.length (.int 0))) ((q + 1 : Nat) : Int) ((q + 1 : Nat) : Int) ((q + 1 : Nat) : Int) ρ' := by
    rintro q _ _ hq ⟨j10, j11, j12, j13, rfl⟩
    exact ⟨_, step_any M k f s t _ 0 walks _ q q q j11 j12 j13 (by omega) (ht q (by omega)), _, _, _, _, rfl⟩
  have hgo := go_rep (Γ := ⟨pg.glob, pg.sub, callK pg M (k+3)⟩) (M := M) (d := .int 0) (R := fun q ρ => IsW (SC f s t) (BK (.lst (List.replicate t.length (.int 0))) a1 a2) 0 walks 2 (.lst (List.replicate t.length (.int 0))) q q q ρ) (n := t.length) (p := 0) (ρ := ρW (SC f s t) (BK (.lst (List.replicate t.length (.int 0))) a1 a2) 0 walks 2 (.lst (List.replicate t.length (.int 0))) 0 0 0 none none none none) [] ⟨none, none, none, none, rfl⟩ hst
  obtain ⟨ρ', h1, h2⟩ := hgo
  rw [List.append_nil] at h2
  rw [Nat.zero_add] at h1
  exact ⟨ρ', h1, h2⟩
theorem walk1 (M k : Nat) (f s t : List D) (a0 a2 : D) (l : Nat) (hs : ∀ p, p < s.length → s[p]? = some (rowC 2 p)) :
    callK pg M (k+4) "walk_of" [.fz (SC f s t), .fz (BK a0 (.lst (List.replicate s.length (.tup [.str "way", .int 0]))) a2), .fz (.int 1), .lst [.fz (W0 l)]] = .ok (.fz (W1 s.length l)) := by
  refine walk_shape M k (SC f s t) _ 1 _ 1 (List.replicate s.length (.tup [.str "way", .int 0])) _ rfl rfl s.length (s.length * (1 + l)) (s.length * (1 + l)) ?_ (end1 M (k+2) f s t)
  generalize hds : List.replicate s.length (D.tup [.str "way", .int 0]) = ds
  have hst : ∀ (q : Nat) (ρ : Ev), 0 ≤ q → q < 0 + s.length → IsW (SC f s t) (BK a0 (.lst ds) a2) 1 (.lst [.fz (W0 l)]) 1 (.lst ds) q (q * (1 + l)) (q * (1 + l)) ρ → ∃ ρ', sts ⟨pg.glob, pg.sub, callK pg M (k+3)⟩ pg.mkX M (setV ρ 10 (.fz (.tup [.str "way", .int 0]))) bodyW = .nx ρ' ∧ IsW (SC f s t) (BK a0 (.lst ds) a2) 1 (.lst [.fz (W0 l)]) 1 (.lst ds) ((q + 1 : Nat) : Int) (((q + 1 : Nat) : Int) * (1 + l)) (((q + 1 : Nat) : Int) * (1 + l)) ρ' := by
    rintro q _ _ hq ⟨j10, j11, j12, j13, rfl⟩
    refine ⟨_, step_call1 M k f s t _ _ _ _ l l q _ _ j11 j12 j13 (by omega) (hs q (by omega)), isW ?_ ?_⟩
    · rw [succ_mul, Int.add_assoc]
    · rw [succ_mul, Int.add_assoc]
  have h0 : IsW (SC f s t) (BK a0 (.lst ds) a2) 1 (.lst [.fz (W0 l)]) 1 (.lst ds) (0 : Nat) (((0 : Nat) : Int) * (1 + l)) (((0 : Nat) : Int) * (1 + l)) (ρW (SC f s t) (BK a0 (.lst ds) a2) 1 (.lst [.fz (W0 l)]) 1 (.lst ds) 0 0 0 none none none none) := ⟨none, none, none, none, by simp only [Int.natCast_zero, Int.zero_mul]⟩
  have hgo := go_rep (Γ := ⟨pg.glob, pg.sub, callK pg M (k+3)⟩) (M := M) (d := .tup [.str "way", .int 0]) (R := fun q ρ => IsW (SC f s t) (BK a0 (.lst ds) a2) 1 (.lst [.fz (W0 l)]) 1 (.lst ds) q (q * (1 + l)) (q * (1 + l)) ρ) (n := s.length) (p := 0) [] h0 hst
  obtain ⟨ρ', h1, h2⟩ := hgo
  rw [List.append_nil, hds] at h2
  rw [Nat.zero_add] at h1
  exact ⟨ρ', h1, h2⟩
theorem walk2 (M k : Nat) (f s t : List D) (a0 a1 : D) (w0 : T) (c m i l : Nat) (hl : f.length = c + m) (hf : ∀ p, p < c → f[p]? = some (rowC 1 p)) (hg : ∀ p, c ≤ p → p < c + m → f[p]? = some (rowF p)) :
    callK pg M (k+4) "walk_of" [.fz (SC f s t), .fz (BK a0 a1 (.lst (List.replicate c (.tup [.str "way", .int 1]) ++ List.replicate m (.int 0)))), .fz (.int 2), .lst [w0, .fz (W1 i l)]] = .ok (.fz (W2 c m i l)) := by
  generalize hds : List.replicate c (D.tup [.str "way", .int 1]) ++ List.replicate m (D.int 0) = ds
  refine walk_shape M k (SC f s t) _ 2 _ 0 ds _ rfl rfl (c + m : Nat) (c * (i * (1 + l))) (c * (1 + i * (1 + l)) + m) ?_ (by rw [← hl]; exact end0 M (k+2) f s t)
  have hst : ∀ (q : Nat) (ρ : Ev), 0 ≤ q → q < 0 + c → IsW (SC f s t) (BK a0 a1 (.lst ds)) 2 (.lst [w0, .fz (W1 i l)]) 0 (.lst ds) q (q * (i * (1 + l))) (q * (1 + i * (1 + l))) ρ → ∃ ρ', sts ⟨pg.glob, pg.sub, callK pg M (k+3)⟩ pg.mkX M (setV ρ 10 (.fz (.tup [.str "way", .int 1]))) bodyW = .nx ρ' ∧ IsW (SC f s t) (BK a0 a1 (.lst ds)) 2 (.lst [w0, .fz (W1 i l)]) 0 (.lst ds) ((q + 1 : Nat) : Int) (((q + 1 : Nat) : Int) * (i * (1 + l))) (((q + 1 : Nat) : Int) * (1 + i * (1 + l))) ρ' := by
    rintro q _ _ hq ⟨j10, j11, j12, j13, rfl⟩
    refine ⟨_, step_call0 M k f s t _ _ _ _ w0 _ _ q _ _ j11 j12 j13 (by omega) (hf q (by omega)), isW ?_ ?_⟩
    · rw [succ_mul, Int.add_zero]
    · rw [succ_mul, Int.add_assoc]
  have h0 : IsW (SC f s t) (BK a0 a1 (.lst ds)) 2 (.lst [w0, .fz (W1 i l)]) 0 (.lst ds) (0 : Nat) (((0 : Nat) : Int) * (i * (1 + l))) (((0 : Nat) : Int) * (1 + i * (1 + l))) (ρW (SC f s t) (BK a0 a1 (.lst ds)) 2 (.lst [w0, .fz (W1 i l)]) 0 (.lst ds) 0 0 0 none none none none) := ⟨none, none, none, none, by simp only [Int.natCast_zero, Int.zero_mul]⟩
  have hgo := go_rep (Γ := ⟨pg.glob, pg.sub, callK pg M (k+3)⟩) (M := M) (d := .tup [.str "way", .int 1]) (R := fun q ρ => IsW (SC f s t) (BK a0 a1 (.lst ds)) 2 (.lst [w0, .fz (W1 i l)]) 0 (.lst ds) q (q * (i * (1 + l))) (q * (1 + i * (1 + l))) ρ) (n := c) (p := 0) (List.replicate m (.int 0)) h0 hst
  obtain ⟨ρ1, h1, h2⟩ := hgo
  rw [Nat.zero_add] at h1
  have hst2 : ∀ (q : Nat) (ρ : Ev), c ≤ q → q < c + m → IsW (SC f s t) (BK a0 a1 (.lst ds)) 2 (.lst [w0, .fz (W1 i l)]) 0 (.lst ds) q (c * (i * (1 + l))) (c * (1 + i * (1 + l)) + (q - c)) ρ → ∃ ρ', sts ⟨pg.glob, pg.sub, callK pg M (k+3)⟩ pg.mkX M (setV ρ 10 (.fz (.int 0))) bodyW = .nx ρ' ∧ IsW (SC f s t) (BK a0 a1 (.lst ds)) 2 (.lst [w0, .fz (W1 i l)]) 0 (.lst ds) ((q + 1 : Nat) : Int) (c * (i * (1 + l))) (c * (1 + i * (1 + l)) + (((q + 1 : Nat) : Int) - c)) ρ' := by
    rintro q _ hq1 hq ⟨j10, j11, j12, j13, rfl⟩
    refine ⟨_, step_first M k f s t _ 2 _ _ q _ _ j11 j12 j13 (by omega) (hg q hq1 hq), isW (Int.add_zero _) ?_⟩
    omega
  have hgo2 := go_rep (Γ := ⟨pg.glob, pg.sub, callK pg M (k+3)⟩) (M := M) (d := .int 0) (R := fun q ρ => IsW (SC f s t) (BK a0 a1 (.lst ds)) 2 (.lst [w0, .fz (W1 i l)]) 0 (.lst ds) q (c * (i * (1 + l))) (c * (1 + i * (1 + l)) + (q - c)) ρ) (n := m) (p := c) (ρ := ρ1) [] (by simpa using h1) hst2
  obtain ⟨ρ', h3, h4⟩ := hgo2
  rw [List.append_nil] at h4
  have e : ((c : Int) * (1 + i * (1 + l)) + (((c + m : Nat) : Int) - c)) = c * (1 + i * (1 + l)) + m := by omega
  rw [e] at h3
  refine ⟨ρ', h3, ?_⟩
  rw [hds] at h2
  exact h2.trans h4

def thirdL (l : Nat) : List D := (List.range l).map rowA
def secondL (i : Nat) : List D := (List.range i).map (rowC 2)
def firstL (c m : Nat) : List D := (List.range c).map (rowC 1) ++ (List.range m).map fun k => rowF (c + k)
def SCR (c m i l : Nat) : D := SC (firstL c m) (secondL i) (thirdL l)
def D0 (l : Nat) : D := .lst (List.replicate l (.int 0))
def D1 (i : Nat) : D := .lst (List.replicate i (.tup [.str "way", .int 0]))
def D2 (c m : Nat) : D := .lst (List.replicate c (.tup [.str "way", .int 1]) ++ List.replicate m (.int 0))
def BOOK (c m i l : Nat) : D := BK (D0 l) (D1 i) (D2 c m)
theorem thirdL_at {l p : Nat} (h : p < l) : (thirdL l)[p]? = some (rowA p) := by simp [thirdL, h]
theorem secondL_at {l p : Nat} (h : p < l) : (secondL l)[p]? = some (rowC 2 p) := by simp [secondL, h]
theorem firstL_at1 {c m p : Nat} (h : p < c) : (firstL c m)[p]? = some (rowC 1 p) := by
  unfold firstL
  rw [List.getElem?_append_left (by simpa using h)]
  simp [h]
theorem firstL_at2 {c m p : Nat} (h1 : c ≤ p) (h : p < c + m) : (firstL c m)[p]? = some (rowF p) := by
  unfold firstL
  rw [List.getElem?_append_right (by simpa using h1)]
  simp only [List.length_map, List.length_range, List.getElem?_map]
  rw [List.getElem?_range (by omega)]
  simp only [Option.map_some]
  rw [show c + (p - c) = p by omega]
theorem rng3 : dRng [.fz (.int 3)] = .ok [.int 0, .int 1, .int 2] := by kernel_rfl
theorem walks_ok (M k c m i l : Nat) : callK pg M (k+5) "walks_of" [.fz (SCR c m i l), .fz (BOOK c m i l)] = .ok (.lst [.fz (W0 l), .fz (W1 i l), .fz (W2 c m i l)]) := by
  have w0 := walk0 M k (firstL c m) (secondL i) (thirdL l) (D1 i) (D2 c m) (.lst []) fun p h => thirdL_at (by simpa [thirdL] using h)
  have w1 := walk1 M k (firstL c m) (secondL i) (thirdL l) (D0 l) (D2 c m) l fun p h => secondL_at (by simpa [secondL] using h)
  have w2 := walk2 M k (firstL c m) (secondL i) (thirdL l) (D0 l) (D1 i) (.fz (W0 l)) c m i l (by simp [firstL]) (fun p h => firstL_at1 h) (fun p h1 h2 => firstL_at2 h1 h2)
  have e1 : (thirdL l).length = l := by simp [thirdL]
  have e2 : (secondL i).length = i := by simp [secondL]
  rw [e1] at w0
  rw [e2] at w1
  have w0 : callK pg M (k+4) "walk_of" [.fz (SCR c m i l), .fz (BOOK c m i l), .fz (.int 0), .lst []] = .ok (.fz (W0 l)) := w0
  have w1 : callK pg M (k+4) "walk_of" [.fz (SCR c m i l), .fz (BOOK c m i l), .fz (.int 1), .lst [.fz (W0 l)]] = .ok (.fz (W1 i l)) := w1
  have w2 : callK pg M (k+4) "walk_of" [.fz (SCR c m i l), .fz (BOOK c m i l), .fz (.int 2), .lst [.fz (W0 l), .fz (W1 i l)]] = .ok (.fz (W2 c m i l)) := w2
  have hlen : dLen (.fz (BOOK c m i l)) = .ok 3 := rfl
  generalize SCR c m i l = sc at w0 w1 w2 ⊢
  generalize BOOK c m i l = bk at w0 w1 w2 hlen ⊢
  refine call_is (df := d_walks_of) rfl rfl ?_
  rw [show d_walks_of.body = b_walks_of from rfl]
  unfold b_walks_of
  have ns : (0 : Nat) < sizeLine := by decide
  have ns1 : (1 : Nat) < sizeLine := by decide
  have ns2 : (2 : Nat) < sizeLine := by decide
  unfold W0 at w0 w1 w2 ⊢
  unfold W1 at w1 w2 ⊢
  unfold W2 at w2 ⊢
  simp only [w0, w1, w2, hlen, evi, rng3, forGo, stos, ns, ns1, ns2, d_walks_of, path, ownL, modV, modT, fApp, callE, sts, st, ev, evs, List.map_cons, List.map_nil, List.cons_append, List.nil_append, List.length_cons, List.length_nil, Nat.sub_self, Nat.zero_add, Nat.reduceSub, Nat.reduceAdd, List.replicate, List.getElem?_cons_zero, List.getElem?_cons_succ, R.bind_ok, R.bind_ex, R.bind_no, R.out_ok, R.out_ex, R.out_no, ix_tup, ix_lst, ix_own, ix_scr, bin_add, bin_sub, atI_0, atI_1, atI_2, atI_3, atI_nat, R.of, R.map, sto, isPl, isFz, Bool.not_true, Bool.not_false, Bool.false_or, Bool.true_or, if_true, bindT_nm, bindT_tup, bindF_nil, bindF_cons, Option.bind_some, setV, List.set_cons_zero, List.set_cons_succ, Out.of, Out.then_nx, Out.then_ret, Bool.false_eq_true, if_false, reduceIte, eb_len, eb_intb, eb_inti, eb_abs, DP.len_tup, DP.len_lst, DP.len_own, er, dCmp, asB, eqD_int, unFz, Option.map_some, Option.map_none, Nat.reduceLeDiff, isNon, dIs, Bool.and_self, decide_true, decide_false, Bool.true_eq_false]
theorem way2_ok (M k : Nat) (f s t : List D) (x : List D) : callK pg M (k+5) "is_way" [.fz (SC f s t), .fz (.tup [.int 2, leafD, .lst x])] = .ok (.fz (.bl true)) := by kernel_rfl
theorem way1_ok (M k : Nat) (f s t : List D) (x : List D) : callK pg M (k+5) "is_way" [.fz (SC f s t), .fz (.tup [.int 1, leafD, .lst x])] = .ok (.fz (.bl true)) := by kernel_rfl
theorem way0_ok (M k : Nat) (f s t : List D) (x : List D) : callK pg M (k+5) "is_way" [.fz (SC f s t), .fz (.tup [.int 0, leafD, .lst x])] = .ok (.fz (.bl true)) := by kernel_rfl
theorem leaf_ok (M k : Nat) (f s t : List D) : callK pg M (k+2) "first_leaf" [.fz (SC f s t)] = .ok (.fz leafD) := by kernel_rfl

theorem okDs_rep (n : Nat) (d : D) (h : okD d = true) : okDs (List.replicate n d) = true := by
  induction n with
  | zero => rfl
  | succ n ih => rw [List.replicate_succ, okDs, h, ih]; rfl
theorem okDs_app : ∀ (xs ys : List D), okDs xs = true → okDs ys = true → okDs (xs ++ ys) = true
  | [], ys, _, h => h
  | x :: xs, ys, h, h2 => by
    simp only [okDs, Bool.and_eq_true] at h
    rw [List.cons_append, okDs, h.1, okDs_app xs ys h.2 h2]; rfl
theorem ok_leaf : okD leafD = true := by kernel_rfl
theorem ok_way (j : Int) : okD (.tup [.str "way", .int j]) = true := by kernel_rfl
theorem ok_D0 (l : Nat) : okD (D0 l) = true := by rw [D0, okD]; exact okDs_rep _ _ (by rw [okD])
theorem ok_D1 (l : Nat) : okD (D1 l) = true := by rw [D1, okD]; exact okDs_rep _ _ (ok_way 0)
theorem ok_D2 (c m : Nat) : okD (D2 c m) = true := by rw [D2, okD]; exact okDs_app _ _ (okDs_rep _ _ (ok_way 1)) (okDs_rep _ _ (by rw [okD]))
theorem okDs_book (c m i l : Nat) : okDs [.tup [.int 2, leafD, D0 l], .tup [.int 1, leafD, D1 i], .tup [.int 0, leafD, D2 c m]] = true := by
  simp only [okDs, okD, ok_leaf, ok_D0, ok_D1, ok_D2, Bool.and_self]
theorem ok_book (c m i l : Nat) : okD (BOOK c m i l) = true := by
  rw [BOOK, BK, okD]; exact okDs_book c m i l
theorem at_neg1 {α : Type} (a b c : α) : L2.atI [a, b, c] (-1) = some c := rfl
theorem cut2 (a b c : D) : dSl (.fz (.tup [a, b, c])) none (some 2) = .ok (.fz (.tup [a, b])) := by rfl
theorem eq_key : eqD (.tup [.int 0, leafD]) (.tup [.int 0, leafD]) = .ok true := by kernel_rfl
theorem isbook_ok (M k c m i l : Nat) : callK pg M (k+6) "is_book" [.fz (SCR c m i l), .fz (BOOK c m i l)] = .ok (.fz (.bl true)) := by
  have w := walks_ok M k c m i l
  have y2 := way2_ok M k (firstL c m) (secondL i) (thirdL l) (List.replicate l (.int 0))
  have y1 := way1_ok M k (firstL c m) (secondL i) (thirdL l) (List.replicate i (.tup [.str "way", .int 0]))
  have y0 := way0_ok M k (firstL c m) (secondL i) (thirdL l) (List.replicate c (.tup [.str "way", .int 1]) ++ List.replicate m (.int 0))
  have lf : callK pg M (k+5) "first_leaf" [.fz (SCR c m i l)] = .ok (.fz leafD) := leaf_ok M (k+3) (firstL c m) (secondL i) (thirdL l)
  have hn := eqD_nil (okDs_book c m i l)
  have y2 : callK pg M (k+5) "is_way" [.fz (SCR c m i l), .fz (.tup [.int 2, leafD, D0 l])] = .ok (.fz (.bl true)) := y2
  have y1 : callK pg M (k+5) "is_way" [.fz (SCR c m i l), .fz (.tup [.int 1, leafD, D1 i])] = .ok (.fz (.bl true)) := y1
  have y0 : callK pg M (k+5) "is_way" [.fz (SCR c m i l), .fz (.tup [.int 0, leafD, D2 c m])] = .ok (.fz (.bl true)) := y0
  unfold BOOK BK at w ⊢
  generalize SCR c m i l = sc at w y2 y1 y0 lf ⊢
  refine call_is (df := d_is_book) rfl rfl ?_
  rw [show d_is_book.body = b_is_book from rfl]
  unfold b_is_book
  have ns : (3 : Nat) < sizeLine := by decide
  simp only [w, y2, y1, y0, lf, hn, evi, itemsOf, lcGo, noEx, wipeE, evc, dIsi, stos, ns, at_neg1, cut2, eq_key, evo, d_is_book, unFz, ers, dBif, plainL, bools, List.all_cons, List.all_nil, id, Bool.and_self, callE, sts, st, ev, evs, List.map_cons, List.map_nil, List.cons_append, List.nil_append, List.length_cons, List.length_nil, Nat.sub_self, Nat.zero_add, Nat.reduceSub, Nat.reduceAdd, List.replicate, List.getElem?_cons_zero, List.getElem?_cons_succ, R.bind_ok, R.bind_ex, R.bind_no, R.out_ok, R.out_ex, R.out_no, ix_tup, ix_lst, ix_own, ix_scr, bin_add, bin_sub, atI_0, atI_1, atI_2, atI_3, atI_nat, R.of, R.map, sto, isPl, isFz, Bool.not_true, Bool.not_false, Bool.false_or, Bool.true_or, if_true, bindT_nm, bindT_tup, bindF_nil, bindF_cons, Option.bind_some, setV, List.set_cons_zero, List.set_cons_succ, Out.of, Out.then_nx, Out.then_ret, Bool.false_eq_true, if_false, reduceIte, eb_len, eb_intb, eb_inti, eb_abs, DP.len_tup, DP.len_lst, DP.len_own, er, dCmp, asB, eqD_int, unFz, Option.map_some, Option.map_none, Nat.reduceLeDiff, isNon, dIs, Bool.and_self, decide_true, decide_false, Bool.true_eq_false]

theorem tells_ok (M k c m i l : Nat) : callK pg M (k+6) "book_tells" [.fz (SCR c m i l), .fz (BOOK c m i l)] = .ok (.fz (.int (c * (i * (1 + l))))) := by
  have w := walks_ok M k c m i l
  generalize SCR c m i l = sc at w ⊢
  generalize BOOK c m i l = bk at w ⊢
  refine call_is (df := d_book_tells) rfl rfl ?_
  rw [show d_book_tells.body = b_book_tells from rfl]
  unfold b_book_tells
  simp only [w, at_neg1, d_book_tells, W2, callE, sts, st, ev, evs, List.map_cons, List.map_nil, List.cons_append, List.nil_append, List.length_cons, List.length_nil, Nat.sub_self, Nat.zero_add, Nat.reduceSub, Nat.reduceAdd, List.replicate, List.getElem?_cons_zero, List.getElem?_cons_succ, R.bind_ok, R.bind_ex, R.bind_no, R.out_ok, R.out_ex, R.out_no, ix_tup, ix_lst, ix_own, ix_scr, bin_add, bin_sub, atI_0, atI_1, atI_2, atI_3, atI_nat, R.of, R.map, sto, isPl, isFz, Bool.not_true, Bool.not_false, Bool.false_or, Bool.true_or, if_true, bindT_nm, bindT_tup, bindF_nil, bindF_cons, Option.bind_some, setV, List.set_cons_zero, List.set_cons_succ, Out.of, Out.then_nx, Out.then_ret, Bool.false_eq_true, if_false, reduceIte, eb_len, eb_intb, eb_inti, eb_abs, DP.len_tup, DP.len_lst, DP.len_own, er, dCmp, asB, eqD_int, unFz, Option.map_some, Option.map_none, Nat.reduceLeDiff, isNon, dIs, Bool.and_self, decide_true, decide_false, Bool.true_eq_false]
theorem ers_range (n : Nat) (g : Nat → D) : ers ((List.range n).map fun k => T.fz (g k)) = (List.range n).map g := by
  rw [show ((List.range n).map fun k => T.fz (g k)) = ((List.range n).map g).map T.fz by rw [List.map_map]; rfl, ers_fz]
def cc1 : DE := .lc (.nm 5) (.rng [.var 0]) none (.fr (.tup [.str "call", .int 1, .bin .add (.var 5) (.int 1)])) [5]
theorem pl1 : isPl cc1 = false := rfl
def cc2 : DE := .lc (.nm 5) (.rng [.var 1]) none (.fr (.tup [.str "first", .bin .add (.bin .add (.var 0) (.var 5)) (.int 1)])) [5]
theorem pl2 : isPl cc2 = false := rfl
def cc3 : DE := .lc (.nm 5) (.rng [.var 2]) none (.fr (.tup [.str "call", .int 2, .bin .add (.var 5) (.int 1)])) [5]
theorem pl3 : isPl cc3 = false := rfl
def cc4 : DE := .lc (.nm 5) (.rng [.var 3]) none (.fr (.tup [.str "any", .fr (.tup [.bin .add (.var 5) (.int 1)])])) [5]
theorem pl4 : isPl cc4 = false := rfl
theorem scroll_ok (M k c m i l : Nat) (hc : c ≤ 1000) (hm : m ≤ 1000) (hi : i ≤ 1000) (hl : l ≤ 1000) : callK pg M (k+1) "_law_scroll" [.fz (.int c), .fz (.int m), .fz (.int i), .fz (.int l)] = .ok (.fz (SCR c m i l)) := by
  refine call_is (df := d__law_scroll) rfl rfl ?_
  rw [show d__law_scroll.body = [.asg (.nm 4) (.fr (.bin .add (.fr cc1) (.fr cc2))), .asg (.nm 6) (.fr cc3), .asg (.nm 7) (.fr cc4), .ret (.tup [.fr (.lst [.fr (.tup [.str "a", .int 2, .int 1])]), .int 1, .fr (.lst [.var 4, .var 6, .var 7])])] from rfl]
  have e1 : ∀ x4 x6 x7 : Option Slot, ev ⟨pg.glob, pg.sub, callK pg M k⟩ [some ⟨false, .fz (.int c)⟩, some ⟨false, .fz (.int m)⟩, some ⟨false, .fz (.int i)⟩, some ⟨false, .fz (.int l)⟩, x4, none, x6, x7] cc1 = .ok (.lst ((List.range c).map fun k => .fz (rowC 1 k))) := fun x4 x6 x7 =>
    ev_lcR (h := fun k => .fz (rowC 1 k)) rfl (by omega) (fun k _ => by simp only [wipeE, rowC, rowF, rowA, callE, sts, st, ev, evs, List.map_cons, List.map_nil, List.cons_append, List.nil_append, List.length_cons, List.length_nil, Nat.sub_self, Nat.zero_add, Nat.reduceSub, Nat.reduceAdd, List.replicate, List.getElem?_cons_zero, List.getElem?_cons_succ, R.bind_ok, R.bind_ex, R.bind_no, R.out_ok, R.out_ex, R.out_no, ix_tup, ix_lst, ix_own, ix_scr, bin_add, bin_sub, atI_0, atI_1, atI_2, atI_3, atI_nat, R.of, R.map, sto, isPl, isFz, Bool.not_true, Bool.not_false, Bool.false_or, Bool.true_or, if_true, bindT_nm, bindT_tup, bindF_nil, bindF_cons, Option.bind_some, setV, List.set_cons_zero, List.set_cons_succ, Out.of, Out.then_nx, Out.then_ret, Bool.false_eq_true, if_false, reduceIte, eb_len, eb_intb, eb_inti, eb_abs, DP.len_tup, DP.len_lst, DP.len_own, er, dCmp, asB, eqD_int, unFz, Option.map_some, Option.map_none, Nat.reduceLeDiff, isNon, dIs, Bool.and_self, decide_true, decide_false, Bool.true_eq_false]; rfl) fun k => rfl
  have e2 : ∀ x4 x6 x7 : Option Slot, ev ⟨pg.glob, pg.sub, callK pg M k⟩ [some ⟨false, .fz (.int c)⟩, some ⟨false, .fz (.int m)⟩, some ⟨false, .fz (.int i)⟩, some ⟨false, .fz (.int l)⟩, x4, none, x6, x7] cc2 = .ok (.lst ((List.range m).map fun k => .fz (rowF (c + k)))) := fun x4 x6 x7 =>
    ev_lcR (h := fun k => .fz (rowF (c + k))) rfl (by omega) (fun k _ => by simp only [wipeE, rowC, rowF, rowA, callE, sts, st, ev, evs, List.map_cons, List.map_nil, List.cons_append, List.nil_append, List.length_cons, List.length_nil, Nat.sub_self, Nat.zero_add, Nat.reduceSub, Nat.reduceAdd, List.replicate, List.getElem?_cons_zero, List.getElem?_cons_succ, R.bind_ok, R.bind_ex, R.bind_no, R.out_ok, R.out_ex, R.out_no, ix_tup, ix_lst, ix_own, ix_scr, bin_add, bin_sub, atI_0, atI_1, atI_2, atI_3, atI_nat, R.of, R.map, sto, isPl, isFz, Bool.not_true, Bool.not_false, Bool.false_or, Bool.true_or, if_true, bindT_nm, bindT_tup, bindF_nil, bindF_cons, Option.bind_some, setV, List.set_cons_zero, List.set_cons_succ, Out.of, Out.then_nx, Out.then_ret, Bool.false_eq_true, if_false, reduceIte, eb_len, eb_intb, eb_inti, eb_abs, DP.len_tup, DP.len_lst, DP.len_own, er, dCmp, asB, eqD_int, unFz, Option.map_some, Option.map_none, Nat.reduceLeDiff, isNon, dIs, Bool.and_self, decide_true, decide_false, Bool.true_eq_false]; rfl) fun k => rfl
  have e3 : ∀ x4 x6 x7 : Option Slot, ev ⟨pg.glob, pg.sub, callK pg M k⟩ [some ⟨false, .fz (.int c)⟩, some ⟨false, .fz (.int m)⟩, some ⟨false, .fz (.int i)⟩, some ⟨false, .fz (.int l)⟩, x4, none, x6, x7] cc3 = .ok (.lst ((List.range i).map fun k => .fz (rowC 2 k))) := fun x4 x6 x7 =>
    ev_lcR (h := fun k => .fz (rowC 2 k)) rfl (by omega) (fun k _ => by simp only [wipeE, rowC, rowF, rowA, callE, sts, st, ev, evs, List.map_cons, List.map_nil, List.cons_append, List.nil_append, List.length_cons, List.length_nil, Nat.sub_self, Nat.zero_add, Nat.reduceSub, Nat.reduceAdd, List.replicate, List.getElem?_cons_zero, List.getElem?_cons_succ, R.bind_ok, R.bind_ex, R.bind_no, R.out_ok, R.out_ex, R.out_no, ix_tup, ix_lst, ix_own, ix_scr, bin_add, bin_sub, atI_0, atI_1, atI_2, atI_3, atI_nat, R.of, R.map, sto, isPl, isFz, Bool.not_true, Bool.not_false, Bool.false_or, Bool.true_or, if_true, bindT_nm, bindT_tup, bindF_nil, bindF_cons, Option.bind_some, setV, List.set_cons_zero, List.set_cons_succ, Out.of, Out.then_nx, Out.then_ret, Bool.false_eq_true, if_false, reduceIte, eb_len, eb_intb, eb_inti, eb_abs, DP.len_tup, DP.len_lst, DP.len_own, er, dCmp, asB, eqD_int, unFz, Option.map_some, Option.map_none, Nat.reduceLeDiff, isNon, dIs, Bool.and_self, decide_true, decide_false, Bool.true_eq_false]; rfl) fun k => rfl
  have e4 : ∀ x4 x6 x7 : Option Slot, ev ⟨pg.glob, pg.sub, callK pg M k⟩ [some ⟨false, .fz (.int c)⟩, some ⟨false, .fz (.int m)⟩, some ⟨false, .fz (.int i)⟩, some ⟨false, .fz (.int l)⟩, x4, none, x6, x7] cc4 = .ok (.lst ((List.range l).map fun k => .fz (rowA k))) := fun x4 x6 x7 =>
    ev_lcR (h := fun k => .fz (rowA k)) rfl (by omega) (fun k _ => by simp only [wipeE, rowC, rowF, rowA, callE, sts, st, ev, evs, List.map_cons, List.map_nil, List.cons_append, List.nil_append, List.length_cons, List.length_nil, Nat.sub_self, Nat.zero_add, Nat.reduceSub, Nat.reduceAdd, List.replicate, List.getElem?_cons_zero, List.getElem?_cons_succ, R.bind_ok, R.bind_ex, R.bind_no, R.out_ok, R.out_ex, R.out_no, ix_tup, ix_lst, ix_own, ix_scr, bin_add, bin_sub, atI_0, atI_1, atI_2, atI_3, atI_nat, R.of, R.map, sto, isPl, isFz, Bool.not_true, Bool.not_false, Bool.false_or, Bool.true_or, if_true, bindT_nm, bindT_tup, bindF_nil, bindF_cons, Option.bind_some, setV, List.set_cons_zero, List.set_cons_succ, Out.of, Out.then_nx, Out.then_ret, Bool.false_eq_true, if_false, reduceIte, eb_len, eb_intb, eb_inti, eb_abs, DP.len_tup, DP.len_lst, DP.len_own, er, dCmp, asB, eqD_int, unFz, Option.map_some, Option.map_none, Nat.reduceLeDiff, isNon, dIs, Bool.and_self, decide_true, decide_false, Bool.true_eq_false]; rfl) fun k => rfl
  have hz : (2000 : Nat) ≤ sizeLine := by rw [sizeLine_eq]; omega
  have ha : dBin .add (.fz (.lst ((List.range c).map (rowC 1)))) (.fz (.lst ((List.range m).map fun k => rowF (c + k)))) = .ok (.lst ((firstL c m).map .fz)) := bin_addl _ _ (by simp only [List.length_map, List.length_range]; omega)
  simp -implicitDefEqProofs only [e1, e2, e3, e4, ers_range, ha, pl1, pl2, pl3, pl4, ers_fz, stos, ers, d__law_scroll, SCR, SC, callE, sts, st, ev, evs, List.map_cons, List.map_nil, List.cons_append, List.nil_append, List.length_cons, List.length_nil, Nat.sub_self, Nat.zero_add, Nat.reduceSub, Nat.reduceAdd, List.replicate, List.getElem?_cons_zero, List.getElem?_cons_succ, R.bind_ok, R.bind_ex, R.bind_no, R.out_ok, R.out_ex, R.out_no, ix_tup, ix_lst, ix_own, ix_scr, bin_add, bin_sub, atI_0, atI_1, atI_2, atI_3, atI_nat, R.of, R.map, sto, isPl, isFz, Bool.not_true, Bool.not_false, Bool.false_or, Bool.true_or, if_true, bindT_nm, bindT_tup, bindF_nil, bindF_cons, Option.bind_some, setV, List.set_cons_zero, List.set_cons_succ, Out.of, Out.then_nx, Out.then_ret, Bool.false_eq_true, if_false, reduceIte, eb_len, eb_intb, eb_inti, eb_abs, DP.len_tup, DP.len_lst, DP.len_own, er, dCmp, asB, eqD_int, unFz, Option.map_some, Option.map_none, Nat.reduceLeDiff, isNon, dIs, Bool.and_self, decide_true, decide_false, Bool.true_eq_false]
  rfl
theorem book_ok (M k c m i l : Nat) (hc : c ≤ 1000) (hm : m ≤ 1000) (hi : i ≤ 1000) (hl : l ≤ 1000) : ∃ t, callK pg M (k+1) "_law_book" [.fz (.int c), .fz (.int m), .fz (.int i), .fz (.int l)] = .ok t ∧ er t = BOOK c m i l := by
  have h0 : dBin .mul (.fz (.lst [.int 0])) (.fz (.int l)) = _ := bin_mul1 (.int 0) l (by omega)
  have h1 : dBin .mul (.fz (.lst [.tup [.str "way", .int 0]])) (.fz (.int i)) = _ := bin_mul1 _ i (by omega)
  have h2 : dBin .mul (.fz (.lst [.tup [.str "way", .int 1]])) (.fz (.int c)) = _ := bin_mul1 _ c (by omega)
  have h3 : dBin .mul (.fz (.lst [.int 0])) (.fz (.int m)) = _ := bin_mul1 (.int 0) m (by omega)
  have hz : (2000 : Nat) ≤ sizeLine := by rw [sizeLine_eq]; omega
  have h4 : dBin .add (.fz (.lst (List.replicate c (.tup [.str "way", .int 1])))) (.fz (.lst (List.replicate m (.int 0)))) = _ := bin_addl _ _ (by simp only [List.length_replicate]; omega)
  have h5 : dBin .add (.fz (.lst [.tup [.int 2, leafD, D0 l], .tup [.int 1, leafD, D1 i]])) (.fz (.lst [.tup [.int 0, leafD, D2 c m]])) = _ := bin_addl _ _ (by simp only [List.length_cons, List.length_nil]; omega)
  unfold leafD D0 D1 D2 at h5
  refine ⟨.lst ([.tup [.int 2, leafD, D0 l], .tup [.int 1, leafD, D1 i], .tup [.int 0, leafD, D2 c m]].map .fz), ?_, er_lst _⟩
  refine call_is (df := d__law_book) rfl rfl ?_
  rw [show d__law_book.body = b__law_book from rfl]
  unfold b__law_book
  simp -implicitDefEqProofs only [h0, h1, h2, h3, h4, h5, ers_fz, stos, ers, d__law_book, callE, sts, st, ev, evs, List.map_cons, List.map_nil, List.cons_append, List.nil_append, List.length_cons, List.length_nil, Nat.sub_self, Nat.zero_add, Nat.reduceSub, Nat.reduceAdd, List.replicate, List.getElem?_cons_zero, List.getElem?_cons_succ, R.bind_ok, R.bind_ex, R.bind_no, R.out_ok, R.out_ex, R.out_no, ix_tup, ix_lst, ix_own, ix_scr, bin_add, bin_sub, atI_0, atI_1, atI_2, atI_3, atI_nat, R.of, R.map, sto, isPl, isFz, Bool.not_true, Bool.not_false, Bool.false_or, Bool.true_or, if_true, bindT_nm, bindT_tup, bindF_nil, bindF_cons, Option.bind_some, setV, List.set_cons_zero, List.set_cons_succ, Out.of, Out.then_nx, Out.then_ret, Bool.false_eq_true, if_false, reduceIte, eb_len, eb_intb, eb_inti, eb_abs, DP.len_tup, DP.len_lst, DP.len_own, er, dCmp, asB, eqD_int, unFz, Option.map_some, Option.map_none, Nat.reduceLeDiff, isNon, dIs, Bool.and_self, decide_true, decide_false, Bool.true_eq_false]
  rfl

def cU : DE := .cmp .ne (.var 3) (.lst [])
def bodyU : List DS := [.pop (some (.tup [.nm 4, .nm 5])) (.var 3), .asg (.nm 6) (.ix (.ix (.var 1) (.var 4)) (.int 2)), .ife (.cmp .lt (.var 5) (.bif .len [.var 6])) [.app (.var 3) (.fr (.tup [.var 4, .bin .add (.var 5) (.int 1)])), .ife (.isi (.ix (.var 6) (.var 5)) .tuple) [.app (.var 2) (.int 0), .app (.var 3) (.fr (.tup [.ix (.ix (.var 6) (.var 5)) (.int 1), .int 0]))] [.app (.var 2) (.ix (.var 6) (.var 5))]] []]
def pr (p : Nat × Nat) : T := .fz (.tup [.int (p.1 : Int), .int (p.2 : Int)])
def prD (p : Nat × Nat) : D := .tup [.int (p.1 : Int), .int (p.2 : Int)]
def ρU (sc bk : D) (run piled : List T) (j4 j5 j6 : Option Slot) : Ev := [some ⟨false, .fz sc⟩, some ⟨false, .fz bk⟩, some ⟨true, .lst run⟩, some ⟨true, .lst piled⟩, j4, j5, j6]
def rep (r : Nat) : List T := List.replicate r (.fz (.int 0))
theorem ers_pr (ps : List (Nat × Nat)) : ers (ps.map pr) = ps.map prD := by
  rw [show ps.map pr = (ps.map prD).map T.fz by rw [List.map_map]; rfl, ers_fz]
theorem okDs_pr : ∀ ps : List (Nat × Nat), okDs (ps.map prD) = true
  | [] => rfl
  | p :: ps => by rw [List.map_cons, okDs, okDs_pr ps, prD, okD, okDs, okDs, okDs, okD, okD]; rfl
section
variable (Γ : Gm) (mk : Str → List D → Option Xc) (M : Nat) (sc bk : D)
theorem condU (run : List T) (ps : List (Nat × Nat)) (j4 j5 j6 : Option Slot) : (ev Γ (ρU sc bk run (ps.map pr) j4 j5 j6) cU).bind asB = .ok (!ps.isEmpty) := by
  unfold cU ρU
  simp only [stos, ers, ers_pr, callE, sts, st, ev, evs, List.map_cons, List.map_nil, List.cons_append, List.nil_append, List.length_cons, List.length_nil, Nat.sub_self, Nat.zero_add, Nat.reduceSub, Nat.reduceAdd, List.replicate, List.getElem?_cons_zero, List.getElem?_cons_succ, R.bind_ok, R.bind_ex, R.bind_no, R.out_ok, R.out_ex, R.out_no, ix_tup, ix_lst, ix_own, ix_scr, bin_add, bin_sub, atI_0, atI_1, atI_2, atI_3, atI_nat, R.of, R.map, sto, isPl, isFz, Bool.not_true, Bool.not_false, Bool.false_or, Bool.true_or, if_true, bindT_nm, bindT_tup, bindF_nil, bindF_cons, Option.bind_some, setV, List.set_cons_zero, List.set_cons_succ, Out.of, Out.then_nx, Out.then_ret, Bool.false_eq_true, if_false, reduceIte, eb_len, eb_intb, eb_inti, eb_abs, DP.len_tup, DP.len_lst, DP.len_own, er, dCmp, asB, eqD_int, unFz, Option.map_some, Option.map_none, Nat.reduceLeDiff, isNon, dIs, Bool.and_self, decide_true, decide_false, Bool.true_eq_false]
  cases ps with
  | nil => rw [List.map_nil, eqD_nilnil]; rfl
  | cons p ps => rw [List.map_cons, eqD_nil (okDs_pr (p :: ps))]; rfl
theorem popU (run : List T) (qs : List (Nat × Nat)) (n a : Nat) (j4 j5 j6 : Option Slot) :
    st Γ mk M (ρU sc bk run ((qs ++ [(n, a)]).map pr) j4 j5 j6) (.pop (some (.tup [.nm 4, .nm 5])) (.var 3)) = .nx (ρU sc bk run (qs.map pr) (ownS (.int n)) (ownS (.int a)) j6) := by
  have h1 : lastT (.lst ((qs ++ [(n, a)]).map pr)) = some (.fz (.tup [.int (n : Int), .int (a : Int)])) := by simp [lastT, pr]
  have h2 : ((qs ++ [(n, a)]).map pr).dropLast = qs.map pr := by simp
  generalize (qs ++ [(n, a)]).map pr = ts at h1 h2 ⊢
  unfold ρU ownS
  simp only [path, modV, modT, fPop, h1, h2, callE, sts, st, ev, evs, List.map_cons, List.map_nil, List.cons_append, List.nil_append, List.length_cons, List.length_nil, Nat.sub_self, Nat.zero_add, Nat.reduceSub, Nat.reduceAdd, List.replicate, List.getElem?_cons_zero, List.getElem?_cons_succ, R.bind_ok, R.bind_ex, R.bind_no, R.out_ok, R.out_ex, R.out_no, ix_tup, ix_lst, ix_own, ix_scr, bin_add, bin_sub, atI_0, atI_1, atI_2, atI_3, atI_nat, R.of, R.map, sto, isPl, isFz, Bool.not_true, Bool.not_false, Bool.false_or, Bool.true_or, if_true, bindT_nm, bindT_tup, bindF_nil, bindF_cons, Option.bind_some, setV, List.set_cons_zero, List.set_cons_succ, Out.of, Out.then_nx, Out.then_ret, Bool.false_eq_true, if_false, reduceIte, eb_len, eb_intb, eb_inti, eb_abs, DP.len_tup, DP.len_lst, DP.len_own, er, dCmp, asB, eqD_int, unFz, Option.map_some, Option.map_none, Nat.reduceLeDiff, isNon, dIs, Bool.and_self, decide_true, decide_false, Bool.true_eq_false]
theorem deedsU {bks : List D} {n : Nat} {x y : D} {ds : List D} (hb : bk = .lst bks) (h : bks[n]? = some (.tup [x, y, .lst ds])) (run piled : List T) (a : Nat) (j6 : Option Slot) :
    st Γ mk M (ρU sc bk run piled (ownS (.int n)) (ownS (.int a)) j6) (.asg (.nm 6) (.ix (.ix (.var 1) (.var 4)) (.int 2))) = .nx (ρU sc bk run piled (ownS (.int n)) (ownS (.int a)) (ownS (.lst ds))) := by
  subst hb
  unfold ρU ownS
  simp only [h, callE, sts, st, ev, evs, List.map_cons, List.map_nil, List.cons_append, List.nil_append, List.length_cons, List.length_nil, Nat.sub_self, Nat.zero_add, Nat.reduceSub, Nat.reduceAdd, List.replicate, List.getElem?_cons_zero, List.getElem?_cons_succ, R.bind_ok, R.bind_ex, R.bind_no, R.out_ok, R.out_ex, R.out_no, ix_tup, ix_lst, ix_own, ix_scr, bin_add, bin_sub, atI_0, atI_1, atI_2, atI_3, atI_nat, R.of, R.map, sto, isPl, isFz, Bool.not_true, Bool.not_false, Bool.false_or, Bool.true_or, if_true, bindT_nm, bindT_tup, bindF_nil, bindF_cons, Option.bind_some, setV, List.set_cons_zero, List.set_cons_succ, Out.of, Out.then_nx, Out.then_ret, Bool.false_eq_true, if_false, reduceIte, eb_len, eb_intb, eb_inti, eb_abs, DP.len_tup, DP.len_lst, DP.len_own, er, dCmp, asB, eqD_int, unFz, Option.map_some, Option.map_none, Nat.reduceLeDiff, isNon, dIs, Bool.and_self, decide_true, decide_false, Bool.true_eq_false]
def restU : DS := .ife (.cmp .lt (.var 5) (.bif .len [.var 6])) [.app (.var 3) (.fr (.tup [.var 4, .bin .add (.var 5) (.int 1)])), .ife (.isi (.ix (.var 6) (.var 5)) .tuple) [.app (.var 2) (.int 0), .app (.var 3) (.fr (.tup [.ix (.ix (.var 6) (.var 5)) (.int 1), .int 0]))] [.app (.var 2) (.ix (.var 6) (.var 5))]] []
theorem restEnd (run piled : List T) (n a : Nat) (ds : List D) (h : ds.length ≤ a) :
    st Γ mk M (ρU sc bk run piled (ownS (.int n)) (ownS (.int a)) (ownS (.lst ds))) restU = .nx (ρU sc bk run piled (ownS (.int n)) (ownS (.int a)) (ownS (.lst ds))) := by
  have hd : decide ((a : Int) < (ds.length : Int)) = false := decide_eq_false (by omega)
  unfold restU ρU ownS
  simp only [dOrd, hd, callE, sts, st, ev, evs, List.map_cons, List.map_nil, List.cons_append, List.nil_append, List.length_cons, List.length_nil, Nat.sub_self, Nat.zero_add, Nat.reduceSub, Nat.reduceAdd, List.replicate, List.getElem?_cons_zero, List.getElem?_cons_succ, R.bind_ok, R.bind_ex, R.bind_no, R.out_ok, R.out_ex, R.out_no, ix_tup, ix_lst, ix_own, ix_scr, bin_add, bin_sub, atI_0, atI_1, atI_2, atI_3, atI_nat, R.of, R.map, sto, isPl, isFz, Bool.not_true, Bool.not_false, Bool.false_or, Bool.true_or, if_true, bindT_nm, bindT_tup, bindF_nil, bindF_cons, Option.bind_some, setV, List.set_cons_zero, List.set_cons_succ, Out.of, Out.then_nx, Out.then_ret, Bool.false_eq_true, if_false, reduceIte, eb_len, eb_intb, eb_inti, eb_abs, DP.len_tup, DP.len_lst, DP.len_own, er, dCmp, asB, eqD_int, unFz, Option.map_some, Option.map_none, Nat.reduceLeDiff, isNon, dIs, Bool.and_self, decide_true, decide_false, Bool.true_eq_false]
theorem restZero (r : Nat) (qs : List (Nat × Nat)) (n a : Nat) (ds : List D) (h : ds[a]? = some (.int 0)) (hr : r < 1000000) (hq : qs.length < 1000) :
    st Γ mk M (ρU sc bk (rep r) (qs.map pr) (ownS (.int n)) (ownS (.int a)) (ownS (.lst ds))) restU = .nx (ρU sc bk (rep (r + 1)) ((qs ++ [(n, a + 1)]).map pr) (ownS (.int n)) (ownS (.int a)) (ownS (.lst ds))) := by
  have hlt : a < ds.length := (List.getElem?_eq_some_iff.mp h).1
  have hd : decide ((a : Int) < (ds.length : Int)) = true := decide_eq_true (by omega)
  have e1 : (qs.map pr).length < sizeLine := by rw [sizeLine_eq, List.length_map]; omega
  have e2 : (rep r).length < sizeLine := by rw [sizeLine_eq, rep, List.length_replicate]; omega
  have e3 : (qs ++ [(n, a + 1)]).map pr = qs.map pr ++ [.fz (.tup [.int (n : Int), .int ((a : Int) + 1)])] := by rw [List.map_append]; rfl
  have e4 : rep (r + 1) = rep r ++ [.fz (.int 0)] := by rw [rep, List.replicate_succ']; rfl
  rw [e3, e4]
  generalize rep r = run at e2 ⊢
  generalize qs.map pr = piled at e1 ⊢
  unfold restU ρU ownS
  simp -implicitDefEqProofs only [dOrd, hd, h, e1, e2, path, ownL, modV, modT, fApp, dIsi, callE, sts, st, ev, evs, List.map_cons, List.map_nil, List.cons_append, List.nil_append, List.length_cons, List.length_nil, Nat.sub_self, Nat.zero_add, Nat.reduceSub, Nat.reduceAdd, List.replicate, List.getElem?_cons_zero, List.getElem?_cons_succ, R.bind_ok, R.bind_ex, R.bind_no, R.out_ok, R.out_ex, R.out_no, ix_tup, ix_lst, ix_own, ix_scr, bin_add, bin_sub, atI_0, atI_1, atI_2, atI_3, atI_nat, R.of, R.map, sto, isPl, isFz, Bool.not_true, Bool.not_false, Bool.false_or, Bool.true_or, if_true, bindT_nm, bindT_tup, bindF_nil, bindF_cons, Option.bind_some, setV, List.set_cons_zero, List.set_cons_succ, Out.of, Out.then_nx, Out.then_ret, Bool.false_eq_true, if_false, reduceIte, eb_len, eb_intb, eb_inti, eb_abs, DP.len_tup, DP.len_lst, DP.len_own, er, dCmp, asB, eqD_int, unFz, Option.map_some, Option.map_none, Nat.reduceLeDiff, isNon, dIs, Bool.and_self, decide_true, decide_false, Bool.true_eq_false]
theorem restWay (r : Nat) (qs : List (Nat × Nat)) (n a j : Nat) (ds : List D) (h : ds[a]? = some (.tup [.str "way", .int (j : Int)])) (hr : r < 1000000) (hq : qs.length < 1000) :
    st Γ mk M (ρU sc bk (rep r) (qs.map pr) (ownS (.int n)) (ownS (.int a)) (ownS (.lst ds))) restU = .nx (ρU sc bk (rep (r + 1)) ((qs ++ [(n, a + 1)] ++ [(j, 0)]).map pr) (ownS (.int n)) (ownS (.int a)) (ownS (.lst ds))) := by
  have hlt : a < ds.length := (List.getElem?_eq_some_iff.mp h).1
  have hd : decide ((a : Int) < (ds.length : Int)) = true := decide_eq_true (by omega)
  have e1 : (qs.map pr).length < sizeLine := by rw [sizeLine_eq, List.length_map]; omega
  have e2 : (rep r).length < sizeLine := by rw [sizeLine_eq, rep, List.length_replicate]; omega
  have e3 : (qs ++ [(n, a + 1)] ++ [(j, 0)]).map pr = qs.map pr ++ [.fz (.tup [.int (n : Int), .int ((a : Int) + 1)])] ++ [.fz (.tup [.int (j : Int), .int 0])] := by rw [List.map_append, List.map_append]; rfl
  have e4 : rep (r + 1) = rep r ++ [.fz (.int 0)] := by rw [rep, List.replicate_succ']; rfl
  have e5 : (qs.map pr ++ [T.fz (.tup [.int (n : Int), .int ((a : Int) + 1)])]).length < sizeLine := by rw [sizeLine_eq, List.length_append, List.length_map, List.length_singleton]; omega
  rw [e3, e4]
  generalize rep r = run at e2 ⊢
  generalize qs.map pr = piled at e1 e5 ⊢
  unfold restU ρU ownS
  simp -implicitDefEqProofs only [dOrd, hd, h, e1, e2, e5, path, ownL, modV, modT, fApp, dIsi, callE, sts, st, ev, evs, List.map_cons, List.map_nil, List.cons_append, List.nil_append, List.length_cons, List.length_nil, Nat.sub_self, Nat.zero_add, Nat.reduceSub, Nat.reduceAdd, List.replicate, List.getElem?_cons_zero, List.getElem?_cons_succ, R.bind_ok, R.bind_ex, R.bind_no, R.out_ok, R.out_ex, R.out_no, ix_tup, ix_lst, ix_own, ix_scr, bin_add, bin_sub, atI_0, atI_1, atI_2, atI_3, atI_nat, R.of, R.map, sto, isPl, isFz, Bool.not_true, Bool.not_false, Bool.false_or, Bool.true_or, if_true, bindT_nm, bindT_tup, bindF_nil, bindF_cons, Option.bind_some, setV, List.set_cons_zero, List.set_cons_succ, Out.of, Out.then_nx, Out.then_ret, Bool.false_eq_true, if_false, reduceIte, eb_len, eb_intb, eb_inti, eb_abs, DP.len_tup, DP.len_lst, DP.len_own, er, dCmp, asB, eqD_int, unFz, Option.map_some, Option.map_none, Nat.reduceLeDiff, isNon, dIs, Bool.and_self, decide_true, decide_false, Bool.true_eq_false]
/-- s steps of the while -/
def GoU (r : Nat) (qs : List (Nat × Nat)) (s r' : Nat) (qs' : List (Nat × Nat)) : Prop := ∀ k j4 j5 j6, ∃ j4' j5' j6',
  whilGo (fun ρ => (ev Γ ρ cU).bind asB) (fun ρ => sts Γ mk M ρ bodyU) (k + s) (ρU sc bk (rep r) (qs.map pr) j4 j5 j6) = whilGo (fun ρ => (ev Γ ρ cU).bind asB) (fun ρ => sts Γ mk M ρ bodyU) k (ρU sc bk (rep r') (qs'.map pr) j4' j5' j6')
variable {Γ mk M sc bk}
theorem GoU.trans {r r1 r2 s1 s2 : Nat} {qs q1 q2 : List (Nat × Nat)} (h : GoU Γ mk M sc bk r qs s1 r1 q1) (h' : GoU Γ mk M sc bk r1 q1 s2 r2 q2) : GoU Γ mk M sc bk r qs (s1 + s2) r2 q2 := by
  intro k j4 j5 j6
  obtain ⟨a, b, c, e⟩ := h (k + s2) j4 j5 j6
  obtain ⟨a', b', c', e'⟩ := h' k a b c
  exact ⟨a', b', c', by rw [show k + (s1 + s2) = k + s2 + s1 by omega]; exact e.trans e'⟩
theorem GoU.cast {r r1 r2 s1 s2 : Nat} {qs q1 : List (Nat × Nat)} (h : GoU Γ mk M sc bk r qs s1 r1 q1) (e : s1 = s2) (e' : r1 = r2) : GoU Γ mk M sc bk r qs s2 r2 q1 := by
  subst e e'; exact h
theorem stepU {r r' : Nat} {qs qs' : List (Nat × Nat)} {n a : Nat} {bks : List D} {x y : D} {ds : List D} (hb : bk = .lst bks) (h : bks[n]? = some (.tup [x, y, .lst ds]))
    (hs : st Γ mk M (ρU sc bk (rep r) (qs.map pr) (ownS (.int n)) (ownS (.int a)) (ownS (.lst ds))) restU = .nx (ρU sc bk (rep r') (qs'.map pr) (ownS (.int n)) (ownS (.int a)) (ownS (.lst ds)))) : GoU Γ mk M sc bk r (qs ++ [(n, a)]) 1 r' qs' := by
  intro k j4 j5 j6
  refine ⟨ownS (.int n), ownS (.int a), ownS (.lst ds), ?_⟩
  rw [whilGo, condU]
  have hne : (!(qs ++ [(n, a)]).isEmpty) = true := by simp
  rw [hne]
  simp only
  rw [show bodyU = [.pop (some (.tup [.nm 4, .nm 5])) (.var 3), .asg (.nm 6) (.ix (.ix (.var 1) (.var 4)) (.int 2)), restU] from rfl, sts, popU, Out.then_nx, sts, deedsU _ _ _ _ _ hb h, Out.then_nx, sts, hs, Out.then_nx, sts]
variable {a0 a1 a2 : List D}
theorem go0 {l : Nat} (hb : bk = BK (.lst (List.replicate l (.int 0))) (.lst a1) (.lst a2)) {qs : List (Nat × Nat)} (hq : qs.length < 900) : ∀ (d a r : Nat), a + d = l → r + d < 1000000 → GoU Γ mk M sc bk r (qs ++ [(0, a)]) (d + 1) (r + d) qs := by
  intro d
  induction d with
  | zero => exact fun a r h hr => stepU hb rfl (restEnd _ _ _ _ _ _ _ _ _ _ (by rw [List.length_replicate]; omega))
  | succ d ih =>
    intro a r h hr
    have s1 : GoU Γ mk M sc bk r (qs ++ [(0, a)]) 1 (r + 1) (qs ++ [(0, a + 1)]) := stepU hb rfl (restZero _ _ _ _ _ r qs 0 a _ (by rw [List.getElem?_replicate, if_pos (by omega)]) (by omega) (by omega))
    exact (s1.trans (ih (a + 1) (r + 1) (by omega) (by omega))).cast (by omega) (by omega)
theorem go1 {l i : Nat} (hb : bk = BK (.lst (List.replicate l (.int 0))) (.lst (List.replicate i (.tup [.str "way", .int 0]))) (.lst a2)) {qs : List (Nat × Nat)} (hq : qs.length < 800) : ∀ (d a r : Nat), a + d = i → r + d * (1 + l) < 1000000 → GoU Γ mk M sc bk r (qs ++ [(1, a)]) (d * (l + 2) + 1) (r + d * (1 + l)) qs := by
  intro d
  induction d with
  | zero => exact fun a r h hr => (stepU hb rfl (restEnd _ _ _ _ _ _ _ _ _ _ (by rw [List.length_replicate]; omega))).cast (by omega) (by omega)
  | succ d ih =>
    intro a r h hr
    rw [Nat.succ_mul] at hr
    have s1 : GoU Γ mk M sc bk r (qs ++ [(1, a)]) 1 (r + 1) (qs ++ [(1, a + 1)] ++ [(0, 0)]) := stepU hb rfl (restWay _ _ _ _ _ r qs 1 a 0 _ (by rw [List.getElem?_replicate, if_pos (by omega)]; rfl) (by omega) (by omega))
    have s2 := go0 (Γ := Γ) (mk := mk) (M := M) (sc := sc) hb (qs := qs ++ [(1, a + 1)]) (by rw [List.length_append, List.length_singleton]; omega) l 0 (r + 1) (by omega) (by omega)
    have s3 := ih (a + 1) (r + 1 + l) (by omega) (by omega)
    refine ((s1.trans s2).trans s3).cast ?_ ?_
    · rw [Nat.succ_mul]; omega
    · rw [Nat.succ_mul]; omega
theorem go2b {c m : Nat} (hb : bk = BK (.lst a0) (.lst a1) (D2 c m)) {qs : List (Nat × Nat)} (hq : qs.length < 900) : ∀ (d a r : Nat), c ≤ a → a + d = c + m → r + d < 1000000 → GoU Γ mk M sc bk r (qs ++ [(2, a)]) (d + 1) (r + d) qs := by
  intro d
  induction d with
  | zero => exact fun a r hc h hr => stepU hb rfl (restEnd _ _ _ _ _ _ _ _ _ _ (by rw [List.length_append, List.length_replicate, List.length_replicate]; omega))
  | succ d ih =>
    intro a r hc h hr
    have s1 : GoU Γ mk M sc bk r (qs ++ [(2, a)]) 1 (r + 1) (qs ++ [(2, a + 1)]) := stepU hb rfl (restZero _ _ _ _ _ r qs 2 a _ (by rw [List.getElem?_append_right (by rw [List.length_replicate]; exact hc), List.getElem?_replicate, List.length_replicate, if_pos (by omega)]) (by omega) (by omega))
    exact (s1.trans (ih (a + 1) (r + 1) (by omega) (by omega) (by omega))).cast (by omega) (by omega)
theorem go2 {l i c m : Nat} (hb : bk = BOOK c m i l) {qs : List (Nat × Nat)} (hq : qs.length < 700) : ∀ (d a r : Nat), a + d = c → r + d * (1 + i * (1 + l)) + m < 1000000 → GoU Γ mk M sc bk r (qs ++ [(2, a)]) (d * (i * (l + 2) + 2) + (m + 1)) (r + d * (1 + i * (1 + l)) + m) qs := by
  intro d
  induction d with
  | zero => exact fun a r h hr => (go2b hb (by omega) m a r (by omega) (by omega) (by omega)).cast (by omega) (by omega)
  | succ d ih =>
    intro a r h hr
    rw [Nat.succ_mul] at hr
    have s1 : GoU Γ mk M sc bk r (qs ++ [(2, a)]) 1 (r + 1) (qs ++ [(2, a + 1)] ++ [(1, 0)]) := stepU hb rfl (restWay _ _ _ _ _ r qs 2 a 1 _ (by rw [List.getElem?_append_left (by rw [List.length_replicate]; omega), List.getElem?_replicate, if_pos (by omega)]; rfl) (by omega) (by omega))
    have s2 := go1 (Γ := Γ) (mk := mk) (M := M) (sc := sc) hb (qs := qs ++ [(2, a + 1)]) (by rw [List.length_append, List.length_singleton]; omega) i 0 (r + 1) (by omega) (by omega)
    have s3 := ih (a + 1) (r + 1 + i * (1 + l)) (by omega) (by omega)
    refine ((s1.trans s2).trans s3).cast ?_ ?_
    · rw [Nat.succ_mul]; omega
    · rw [Nat.succ_mul]; omega
end

def manyN (c m i l : Nat) : Nat := c * (1 + i * (1 + l)) + m
theorem many_int (c m i l : Nat) : ((c : Int) * (1 + i * (1 + l)) + m) = (manyN c m i l : Nat) := by unfold manyN; push_cast; rfl
theorem loopU (Γ : Gm) (mk : Str → List D → Option Xc) (sc : D) (c m i l : Nat) (hs : c * (i * (l + 2) + 2) + (m + 1) < 100000) (hr : manyN c m i l < 1000000) (j4 j5 j6 : Option Slot) :
    ∃ j4' j5' j6', whilGo (fun ρ => (ev Γ ρ cU).bind asB) (fun ρ => sts Γ mk 100000 ρ bodyU) 100000 (ρU sc (BOOK c m i l) [] ([(2, 0)].map pr) j4 j5 j6) = .nx (ρU sc (BOOK c m i l) (rep (manyN c m i l)) [] j4' j5' j6') := by
  have g := go2 (Γ := Γ) (mk := mk) (M := 100000) (sc := sc) (bk := BOOK c m i l) rfl (qs := []) (by simp) c 0 0 (by omega) (by unfold manyN at hr; omega)
  obtain ⟨a, b, e, h⟩ := g (100000 - (c * (i * (l + 2) + 2) + (m + 1))) j4 j5 j6
  refine ⟨a, b, e, ?_⟩
  rw [show 100000 - (c * (i * (l + 2) + 2) + (m + 1)) + (c * (i * (l + 2) + 2) + (m + 1)) = 100000 by omega] at h
  rw [show rep 0 = [] from rfl, List.nil_append] at h
  rw [h, show 0 + c * (1 + i * (1 + l)) + m = manyN c m i l by unfold manyN; omega]
  rw [show 100000 - (c * (i * (l + 2) + 2) + (m + 1)) = (99999 - (c * (i * (l + 2) + 2) + (m + 1))) + 1 by omega, whilGo, condU]
  rfl
theorem unrolled_ok (k c m i l : Nat) (hs : c * (i * (l + 2) + 2) + (m + 1) < 100000) (h : manyN c m i l ≤ 900) : callK pg 100000 (k+6) "unrolled" [.fz (SCR c m i l), .fz (BOOK c m i l)] = .ok (.lst (rep (manyN c m i l))) := by
  have w := walks_ok 100000 k c m i l
  obtain ⟨a, b, e, hl⟩ := loopU ⟨pg.glob, pg.sub, callK pg 100000 (k+5)⟩ pg.mkX (SCR c m i l) c m i l hs (by omega) none none none
  have hlen : dLen (.fz (BOOK c m i l)) = .ok 3 := rfl
  have hd : decide ((900 : Int) < (manyN c m i l : Nat)) = false := decide_eq_false (by omega)
  have hg : pg.glob "MOST_CHOICES" = some (.int 900) := rfl
  unfold W2 at w
  rw [many_int] at w
  generalize SCR c m i l = sc at w hl ⊢
  generalize BOOK c m i l = bk at w hl hlen ⊢
  refine call_is (df := d_unrolled) rfl rfl ?_
  rw [show d_unrolled.body = [.ife (.cmp .gt (.ix (.ix (.call "walks_of" [.var 0, .var 1]) (.neg (.int 1))) (.int 2)) (.glob "MOST_CHOICES")) [.raiseM "TooLong"] [], .asg (.nm 2) (.lst []), .asg (.nm 3) (.lst [.fr (.tup [.bin .sub (.bif .len [.var 1]) (.int 1), .int 0])]), .whil cU bodyU, .ret (.var 2)] from rfl]
  unfold ρU at hl
  rw [show [((2 : Nat), (0 : Nat))].map pr = [.fz (.tup [.int 2, .int 0])] from rfl] at hl
  have hsub : (3 : Int) - 1 = 2 := rfl
  simp -implicitDefEqProofs only [w, hlen, hd, hg, hl, hsub, at_neg1, dOrd, d_unrolled, stos, path, callE, sts, st, ev, evs, List.map_cons, List.map_nil, List.cons_append, List.nil_append, List.length_cons, List.length_nil, Nat.sub_self, Nat.zero_add, Nat.reduceSub, Nat.reduceAdd, List.replicate, List.getElem?_cons_zero, List.getElem?_cons_succ, R.bind_ok, R.bind_ex, R.bind_no, R.out_ok, R.out_ex, R.out_no, ix_tup, ix_lst, ix_own, ix_scr, bin_add, bin_sub, atI_0, atI_1, atI_2, atI_3, atI_nat, R.of, R.map, sto, isPl, isFz, Bool.not_true, Bool.not_false, Bool.false_or, Bool.true_or, if_true, bindT_nm, bindT_tup, bindF_nil, bindF_cons, Option.bind_some, setV, List.set_cons_zero, List.set_cons_succ, Out.of, Out.then_nx, Out.then_ret, Bool.false_eq_true, if_false, reduceIte, eb_len, eb_intb, eb_inti, eb_abs, DP.len_tup, DP.len_lst, DP.len_own, er, dCmp, asB, eqD_int, unFz, Option.map_some, Option.map_none, Nat.reduceLeDiff, isNon, dIs, Bool.and_self, decide_true, decide_false, Bool.true_eq_false]
theorem unrolled_ex (k c m i l : Nat) (h : 900 < manyN c m i l) : callK pg 100000 (k+6) "unrolled" [.fz (SCR c m i l), .fz (BOOK c m i l)] = .ex ⟨"TooLong", []⟩ := by
  have w := walks_ok 100000 k c m i l
  have hd : decide ((900 : Int) < (manyN c m i l : Nat)) = true := decide_eq_true (by omega)
  have hg : pg.glob "MOST_CHOICES" = some (.int 900) := rfl
  unfold W2 at w
  rw [many_int] at w
  generalize SCR c m i l = sc at w ⊢
  generalize BOOK c m i l = bk at w ⊢
  refine call_ex (df := d_unrolled) (ρ := [some ⟨false, .fz sc⟩, some ⟨false, .fz bk⟩, none, none, none, none, none]) rfl rfl ?_
  rw [show d_unrolled.body = [.ife (.cmp .gt (.ix (.ix (.call "walks_of" [.var 0, .var 1]) (.neg (.int 1))) (.int 2)) (.glob "MOST_CHOICES")) [.raiseM "TooLong"] [], .asg (.nm 2) (.lst []), .asg (.nm 3) (.lst [.fr (.tup [.bin .sub (.bif .len [.var 1]) (.int 1), .int 0])]), .whil cU bodyU, .ret (.var 2)] from rfl]
  simp -implicitDefEqProofs only [w, hd, hg, at_neg1, dOrd, d_unrolled, Out.then_ex, callE, sts, st, ev, evs, List.map_cons, List.map_nil, List.cons_append, List.nil_append, List.length_cons, List.length_nil, Nat.sub_self, Nat.zero_add, Nat.reduceSub, Nat.reduceAdd, List.replicate, List.getElem?_cons_zero, List.getElem?_cons_succ, R.bind_ok, R.bind_ex, R.bind_no, R.out_ok, R.out_ex, R.out_no, ix_tup, ix_lst, ix_own, ix_scr, bin_add, bin_sub, atI_0, atI_1, atI_2, atI_3, atI_nat, R.of, R.map, sto, isPl, isFz, Bool.not_true, Bool.not_false, Bool.false_or, Bool.true_or, if_true, bindT_nm, bindT_tup, bindF_nil, bindF_cons, Option.bind_some, setV, List.set_cons_zero, List.set_cons_succ, Out.of, Out.then_nx, Out.then_ret, Bool.false_eq_true, if_false, reduceIte, eb_len, eb_intb, eb_inti, eb_abs, DP.len_tup, DP.len_lst, DP.len_own, er, dCmp, asB, eqD_int, unFz, Option.map_some, Option.map_none, Nat.reduceLeDiff, isNon, dIs, Bool.and_self, decide_true, decide_false, Bool.true_eq_false]
theorem kept_ex (k c m i l : Nat) (h : 900 < manyN c m i l) : callK pg 100000 (k+7) "_law_kept" [.fz (SCR c m i l), .fz (BOOK c m i l)] = .ok (.fz (.bl true)) := by
  have w := unrolled_ex k c m i l h
  generalize SCR c m i l = sc at w ⊢
  generalize BOOK c m i l = bk at w ⊢
  refine call_is (df := d__law_kept) rfl rfl ?_
  rw [show d__law_kept.body = b__law_kept from rfl]
  unfold b__law_kept
  have hsub : pg.sub "TooLong" "HandError" = some true := by kernel_rfl
  simp -implicitDefEqProofs only [w, hsub, d__law_kept, callE, sts, st, ev, evs, List.map_cons, List.map_nil, List.cons_append, List.nil_append, List.length_cons, List.length_nil, Nat.sub_self, Nat.zero_add, Nat.reduceSub, Nat.reduceAdd, List.replicate, List.getElem?_cons_zero, List.getElem?_cons_succ, R.bind_ok, R.bind_ex, R.bind_no, R.out_ok, R.out_ex, R.out_no, ix_tup, ix_lst, ix_own, ix_scr, bin_add, bin_sub, atI_0, atI_1, atI_2, atI_3, atI_nat, R.of, R.map, sto, isPl, isFz, Bool.not_true, Bool.not_false, Bool.false_or, Bool.true_or, if_true, bindT_nm, bindT_tup, bindF_nil, bindF_cons, Option.bind_some, setV, List.set_cons_zero, List.set_cons_succ, Out.of, Out.then_nx, Out.then_ret, Bool.false_eq_true, if_false, reduceIte, eb_len, eb_intb, eb_inti, eb_abs, DP.len_tup, DP.len_lst, DP.len_own, er, dCmp, asB, eqD_int, unFz, Option.map_some, Option.map_none, Nat.reduceLeDiff, isNon, dIs, Bool.and_self, decide_true, decide_false, Bool.true_eq_false]
  kernel_rfl

def cX : DE := .lc (.nm 9) (.var 8) (some (.isi (.var 9) .bool)) (.var 9) [9]
theorem plX : isPl cX = false := rfl
theorem dAll : ∀ (ds : List D) (k : Nat), (∀ d ∈ ds, (py d).depth ≤ k) → PyData.depthAll (pys ds) ≤ k
  | [], k, _ => by rw [pys, PyData.depthAll]; exact Nat.zero_le _
  | d :: ds, k, h => by
    rw [pys, PyData.depthAll]
    exact Nat.max_le.mpr ⟨h d List.mem_cons_self, dAll ds k fun e he => h e (List.mem_cons_of_mem _ he)⟩
theorem dLst {ds : List D} {k : Nat} (h : ∀ d ∈ ds, (py d).depth ≤ k) : (py (.lst ds)).depth ≤ k + 1 := by
  rw [py, PyData.depth]; have := dAll ds k h; omega
theorem dTup {ds : List D} {k : Nat} (h : ∀ d ∈ ds, (py d).depth ≤ k) : (py (.tup ds)).depth ≤ k + 1 := by
  rw [py, PyData.depth]; have := dAll ds k h; omega
theorem dInt (i : Int) (k : Nat) : (py (.int i)).depth ≤ k := by rw [py, PyData.depth]; exact Nat.zero_le _
theorem dWay (j : Int) : (py (.tup [.str "way", .int j])).depth ≤ 1 := by
  refine dTup (k := 0) fun d h => ?_
  simp only [List.mem_cons, List.not_mem_nil, or_false] at h
  rcases h with rfl | rfl
  · rw [py, PyData.depth]; exact Nat.le_refl _
  · exact dInt _ _
theorem dep_book (c m i l : Nat) : (py (BOOK c m i l)).depth ≤ 64 := by
  have h0 : (py (D0 l)).depth ≤ 4 := Nat.le_trans (dLst (k := 1) fun d h => by rw [List.eq_of_mem_replicate h]; exact dInt _ _) (by omega)
  have h1 : (py (D1 i)).depth ≤ 4 := Nat.le_trans (dLst (k := 1) fun d h => by rw [List.eq_of_mem_replicate h]; exact dWay _) (by omega)
  have h2 : (py (D2 c m)).depth ≤ 4 := Nat.le_trans (dLst (k := 1) fun d h => by
    rcases List.mem_append.mp h with h | h
    · rw [List.eq_of_mem_replicate h]; exact dWay _
    · rw [List.eq_of_mem_replicate h]; exact dInt _ _) (by omega)
  have hf : (py leafD).depth ≤ 4 := by
    have : (py leafD).depth = 3 := by kernel_rfl
    omega
  have tri : ∀ (p : Int) (x : D), (py x).depth ≤ 4 → (py (.tup [.int p, leafD, x])).depth ≤ 5 := fun p x hx => dTup fun d h => by
    simp only [List.mem_cons, List.not_mem_nil, or_false] at h
    rcases h with rfl | rfl | rfl
    · exact dInt _ _
    · exact hf
    · exact hx
  refine Nat.le_trans (dLst (k := 5) fun d h => ?_) (by omega)
  simp only [List.mem_cons, List.not_mem_nil, or_false] at h
  rcases h with rfl | rfl | rfl
  · exact tri _ _ h0
  · exact tri _ _ h1
  · exact tri _ _ h2
theorem ers_rep (n : Nat) : ers (rep n) = List.replicate n (.int 0) := by
  rw [show rep n = (List.replicate n (D.int 0)).map T.fz by rw [List.map_replicate]; rfl, ers_fz]
theorem dep_zero (n : Nat) : (py (.lst (List.replicate n (.int 0)))).depth ≤ 64 := Nat.le_trans (dLst (k := 1) fun d h => by rw [List.eq_of_mem_replicate h]; exact dInt _ _) (by omega)
theorem ok_zero (n : Nat) : okD (.lst (List.replicate n (.int 0))) = true := by rw [okD]; exact okDs_rep _ _ (by rw [okD])
theorem eq_zero (n : Nat) : eqD (.lst (List.replicate n (.int 0))) (.lst (List.replicate n (.int 0))) = .ok true := eqD_self (ok_zero n) (dep_zero n)
theorem eq_book (c m i l : Nat) : eqD (BOOK c m i l) (BOOK c m i l) = .ok true := eqD_self (ok_book c m i l) (dep_book c m i l)
theorem lcGo_none {f : D → R (Option T)} : ∀ {ds : List D}, (∀ d ∈ ds, f d = .ok none) → lcGo f ds = .ok []
  | [], _ => rfl
  | d :: ds, h => by rw [lcGo, h d List.mem_cons_self, lcGo_none fun e he => h e (List.mem_cons_of_mem _ he)]; rfl
theorem ev_cX (Γ : Gm) (x0 x1 x2 x3 x4 x5 x6 x7 x9 : Option Slot) (n : Nat) : ev Γ [x0, x1, x2, x3, x4, x5, x6, x7, ownS (.lst (List.replicate n (.int 0))), x9] cX = .ok (.lst []) := by
  have hz : (0 : Nat) < sizeLine := by rw [sizeLine_eq]; decide
  unfold cX ownS
  rw [ev, evi]
  simp only [List.getElem?_cons_zero, List.getElem?_cons_succ, itemsOf, R.bind_ok]
  rw [lcGo_none]
  · rw [R.bind_ok, List.length_nil, if_pos hz]
  · intro d h
    rw [List.eq_of_mem_replicate h]
    simp only [wipeE, evc, dIsi, noEx, callE, sts, st, ev, evs, List.map_cons, List.map_nil, List.cons_append, List.nil_append, List.length_cons, List.length_nil, Nat.sub_self, Nat.zero_add, Nat.reduceSub, Nat.reduceAdd, List.replicate, List.getElem?_cons_zero, List.getElem?_cons_succ, R.bind_ok, R.bind_ex, R.bind_no, R.out_ok, R.out_ex, R.out_no, ix_tup, ix_lst, ix_own, ix_scr, bin_add, bin_sub, atI_0, atI_1, atI_2, atI_3, atI_nat, R.of, R.map, sto, isPl, isFz, Bool.not_true, Bool.not_false, Bool.false_or, Bool.true_or, if_true, bindT_nm, bindT_tup, bindF_nil, bindF_cons, Option.bind_some, setV, List.set_cons_zero, List.set_cons_succ, Out.of, Out.then_nx, Out.then_ret, Bool.false_eq_true, if_false, reduceIte, eb_len, eb_intb, eb_inti, eb_abs, DP.len_tup, DP.len_lst, DP.len_own, er, dCmp, asB, eqD_int, unFz, Option.map_some, Option.map_none, Nat.reduceLeDiff, isNon, dIs, Bool.and_self, decide_true, decide_false, Bool.true_eq_false]
section
variable (k c m i l : Nat) (hc : c ≤ 15) (hm : m ≤ 9) (hi : i ≤ 18) (hl : l ≤ 18)
include hc hm hi hl
theorem many_dec : manyN c m i l ≤ 5200 := by
  unfold manyN
  have h1 : i * (1 + l) ≤ 18 * 19 := Nat.mul_le_mul hi (by omega)
  have h2 : c * (1 + i * (1 + l)) ≤ 15 * (1 + 18 * 19) := Nat.mul_le_mul hc (by omega)
  omega
theorem steps_dec : c * (i * (l + 2) + 2) + (m + 1) < 100000 := by
  have h1 : i * (l + 2) ≤ 18 * 20 := Nat.mul_le_mul hi (by omega)
  have h2 : c * (i * (l + 2) + 2) ≤ 15 * (18 * 20 + 2) := Nat.mul_le_mul hc (by omega)
  omega
theorem right_ok : callK pg 100000 (k+8) "_law_right" [.fz (.int c), .fz (.int m), .fz (.int i), .fz (.int l)] = .ok (.fz (.bl true)) := by
  have q1 := scroll_ok 100000 (k+6) c m i l (by omega) (by omega) (by omega) (by omega)
  obtain ⟨t, q2, q3⟩ := book_ok 100000 (k+6) c m i l (by omega) (by omega) (by omega) (by omega)
  have q4 := isbook_ok 100000 (k+1) c m i l
  have q5 := tells_ok 100000 (k+1) c m i l
  have p1 : callK pg 100000 (k+7) "_law_scroll" [.fz (.int 1), .fz (.int 1), .fz (.int 1), .fz (.int 2)] = .ok (.fz (SCR 1 1 1 2)) := scroll_ok 100000 (k+6) 1 1 1 2 (by omega) (by omega) (by omega) (by omega)
  have p2' := book_ok 100000 (k+6) 1 1 1 2 (by omega) (by omega) (by omega) (by omega)
  obtain ⟨t2, p2, p3⟩ := p2'
  have p2 : callK pg 100000 (k+7) "_law_book" [.fz (.int 1), .fz (.int 1), .fz (.int 1), .fz (.int 2)] = .ok t2 := p2
  have p4 : callK pg 100000 (k+7) "unrolled" [.fz (SCR 1 1 1 2), .fz (BOOK 1 1 1 2)] = .ok (.lst (rep 5)) := unrolled_ok (k+1) 1 1 1 2 (by omega) (by decide)
  have p5 : dBin .mul (.fz (.lst [.int 0])) (.fz (.int 5)) = .ok (.lst [.fz (.int 0), .fz (.int 0), .fz (.int 0), .fz (.int 0), .fz (.int 0)]) := bin_mul1 (.int 0) 5 (by omega)
  have m1 : dBin .mul (.fz (.int i)) (.fz (.int (1 + l))) = .ok (.fz (.int (i * (1 + l)))) := bin_muli _ _ ⟨by omega, by omega⟩
  have m2 : dBin .mul (.fz (.int c)) (.fz (.int (1 + i * (1 + l)))) = .ok (.fz (.int (c * (1 + i * (1 + l))))) := bin_muli _ _ ⟨by omega, by omega⟩
  have m3 : dBin .mul (.fz (.int c)) (.fz (.int i)) = .ok (.fz (.int (c * i))) := bin_muli _ _ ⟨by omega, by omega⟩
  have hci : c * i ≤ 15 * 18 := Nat.mul_le_mul hc hi
  have m4 : dBin .mul (.fz (.int (c * i))) (.fz (.int (1 + l))) = .ok (.fz (.int (c * (i * (1 + l))))) := by
    rw [bin_muli _ _ ⟨by rw [← Int.natCast_mul]; omega, by rw [← Int.natCast_mul]; omega⟩, Int.mul_assoc]
  have md := many_dec c m i l hc hm hi hl
  have hmn := many_int c m i l
  have e5 : eqD (.lst [.int 0, .int 0, .int 0, .int 0, .int 0]) (.lst [.int 0, .int 0, .int 0, .int 0, .int 0]) = .ok true := eq_zero 5
  have eb := eq_book c m i l
  have en := eq_zero (manyN c m i l)
  have z0 : dBin .mul (.fz (.lst [.int 0])) (.fz (.int (manyN c m i l : Nat))) = _ := bin_mul1 (.int 0) (manyN c m i l) (by omega)
  by_cases hbig : 900 < manyN c m i l
  · have hd : decide ((900 : Int) < (manyN c m i l : Nat)) = true := decide_eq_true (by omega)
    have kp := kept_ex k c m i l hbig
    generalize SCR c m i l = sc at q1 q4 q5 kp
    generalize BOOK c m i l = bk at q3 q4 q5 kp eb
    generalize SCR 1 1 1 2 = sc1 at p1 p4
    generalize BOOK 1 1 1 2 = bk1 at p3 p4
    refine call_is (df := d__law_right) rfl rfl ?_
    rw [show d__law_right.body = [.asg (.nm 4) (.fr (.call "_law_scroll" [.var 0, .var 1, .var 2, .var 3])), .asg (.nm 5) (.fr (.call "_law_book" [.var 0, .var 1, .var 2, .var 3])), .asg (.nm 6) (.bin .add (.bin .mul (.var 0) (.bin .add (.int 1) (.bin .mul (.var 2) (.bin .add (.int 1) (.var 3))))) (.var 1)), .ife (.or (.cmp .isNot (.call "is_book" [.var 4, .var 5]) (.bl true)) (.cmp .ne (.call "book_tells" [.var 4, .var 5]) (.bin .mul (.bin .mul (.var 0) (.var 2)) (.bin .add (.int 1) (.var 3))))) [.ret (.bl false)] [], .asg (.nm 7) (.fr (.call "_law_scroll" [.int 1, .int 1, .int 1, .int 2])), .ife (.and (.cmp .gt (.var 6) (.int 900)) (.not (.call "_law_kept" [.var 4, .var 5]))) [.ret (.bl false)] [], .ife (.cmp .ne (.call "unrolled" [.var 7, .fr (.call "_law_book" [.int 1, .int 1, .int 1, .int 2])]) (.bin .mul (.fr (.lst [.int 0])) (.int 5))) [.ret (.bl false)] [], .ife (.cmp .gt (.var 6) (.int 900)) [.ret (.and (.call "_law_kept" [.var 4, .var 5]) (.cmp .eq (.var 5) (.call "_law_book" [.var 0, .var 1, .var 2, .var 3])))] [], .asg (.nm 8) (.fr (.call "unrolled" [.var 4, .var 5])), .ife (.or (.not (.isi (.var 8) .list)) (.cmp .ne cX (.lst []))) [.ret (.bl false)] [], .ret (.and (.cmp .eq (.var 8) (.bin .mul (.fr (.lst [.int 0])) (.var 6))) (.cmp .eq (.var 5) (.call "_law_book" [.var 0, .var 1, .var 2, .var 3])))] from rfl]
    simp -implicitDefEqProofs only [q1, q2, q3, q4, q5, p1, p2, p3, p4, p5, m1, m2, m3, m4, hmn, e5, eb, en, hd, kp, ers_rep, ers_fz, d__law_right, dOrd, plX, ers, stos, callE, sts, st, ev, evs, List.map_cons, List.map_nil, List.cons_append, List.nil_append, List.length_cons, List.length_nil, Nat.sub_self, Nat.zero_add, Nat.reduceSub, Nat.reduceAdd, List.replicate, List.getElem?_cons_zero, List.getElem?_cons_succ, R.bind_ok, R.bind_ex, R.bind_no, R.out_ok, R.out_ex, R.out_no, ix_tup, ix_lst, ix_own, ix_scr, bin_add, bin_sub, atI_0, atI_1, atI_2, atI_3, atI_nat, R.of, R.map, sto, isPl, isFz, Bool.not_true, Bool.not_false, Bool.false_or, Bool.true_or, if_true, bindT_nm, bindT_tup, bindF_nil, bindF_cons, Option.bind_some, setV, List.set_cons_zero, List.set_cons_succ, Out.of, Out.then_nx, Out.then_ret, Bool.false_eq_true, if_false, reduceIte, eb_len, eb_intb, eb_inti, eb_abs, DP.len_tup, DP.len_lst, DP.len_own, er, dCmp, asB, eqD_int, unFz, Option.map_some, Option.map_none, Nat.reduceLeDiff, isNon, dIs, Bool.and_self, decide_true, decide_false, Bool.true_eq_false]
  · have hd : decide ((900 : Int) < (manyN c m i l : Nat)) = false := decide_eq_false (by omega)
    have ur : callK pg 100000 (k+7) "unrolled" [.fz (SCR c m i l), .fz (BOOK c m i l)] = .ok (.lst (rep (manyN c m i l))) := unrolled_ok (k+1) c m i l (steps_dec c m i l hc hm hi hl) (by omega)
    have ex := ev_cX ⟨pg.glob, pg.sub, callK pg 100000 (k+7)⟩
    unfold ownS at ex
    generalize SCR c m i l = sc at q1 q4 q5 ur
    generalize BOOK c m i l = bk at q3 q4 q5 ur eb
    generalize SCR 1 1 1 2 = sc1 at p1 p4
    generalize BOOK 1 1 1 2 = bk1 at p3 p4
    refine call_is (df := d__law_right) rfl rfl ?_
    rw [show d__law_right.body = [.asg (.nm 4) (.fr (.call "_law_scroll" [.var 0, .var 1, .var 2, .var 3])), .asg (.nm 5) (.fr (.call "_law_book" [.var 0, .var 1, .var 2, .var 3])), .asg (.nm 6) (.bin .add (.bin .mul (.var 0) (.bin .add (.int 1) (.bin .mul (.var 2) (.bin .add (.int 1) (.var 3))))) (.var 1)), .ife (.or (.cmp .isNot (.call "is_book" [.var 4, .var 5]) (.bl true)) (.cmp .ne (.call "book_tells" [.var 4, .var 5]) (.bin .mul (.bin .mul (.var 0) (.var 2)) (.bin .add (.int 1) (.var 3))))) [.ret (.bl false)] [], .asg (.nm 7) (.fr (.call "_law_scroll" [.int 1, .int 1, .int 1, .int 2])), .ife (.and (.cmp .gt (.var 6) (.int 900)) (.not (.call "_law_kept" [.var 4, .var 5]))) [.ret (.bl false)] [], .ife (.cmp .ne (.call "unrolled" [.var 7, .fr (.call "_law_book" [.int 1, .int 1, .int 1, .int 2])]) (.bin .mul (.fr (.lst [.int 0])) (.int 5))) [.ret (.bl false)] [], .ife (.cmp .gt (.var 6) (.int 900)) [.ret (.and (.call "_law_kept" [.var 4, .var 5]) (.cmp .eq (.var 5) (.call "_law_book" [.var 0, .var 1, .var 2, .var 3])))] [], .asg (.nm 8) (.fr (.call "unrolled" [.var 4, .var 5])), .ife (.or (.not (.isi (.var 8) .list)) (.cmp .ne cX (.lst []))) [.ret (.bl false)] [], .ret (.and (.cmp .eq (.var 8) (.bin .mul (.fr (.lst [.int 0])) (.var 6))) (.cmp .eq (.var 5) (.call "_law_book" [.var 0, .var 1, .var 2, .var 3])))] from rfl]
    simp -implicitDefEqProofs only [q1, q2, q3, q4, q5, p1, p2, p3, p4, p5, m1, m2, m3, m4, hmn, e5, eb, en, hd, ur, ex, z0, ers_rep, ers_fz, d__law_right, dOrd, plX, ers, dIsi, eqD_nilnil, stos, callE, sts, st, ev, evs, List.map_cons, List.map_nil, List.cons_append, List.nil_append, List.length_cons, List.length_nil, Nat.sub_self, Nat.zero_add, Nat.reduceSub, Nat.reduceAdd, List.replicate, List.getElem?_cons_zero, List.getElem?_cons_succ, R.bind_ok, R.bind_ex, R.bind_no, R.out_ok, R.out_ex, R.out_no, ix_tup, ix_lst, ix_own, ix_scr, bin_add, bin_sub, atI_0, atI_1, atI_2, atI_3, atI_nat, R.of, R.map, sto, isPl, isFz, Bool.not_true, Bool.not_false, Bool.false_or, Bool.true_or, if_true, bindT_nm, bindT_tup, bindF_nil, bindF_cons, Option.bind_some, setV, List.set_cons_zero, List.set_cons_succ, Out.of, Out.then_nx, Out.then_ret, Bool.false_eq_true, if_false, reduceIte, eb_len, eb_intb, eb_inti, eb_abs, DP.len_tup, DP.len_lst, DP.len_own, er, dCmp, asB, eqD_int, unFz, Option.map_some, Option.map_none, Nat.reduceLeDiff, isNon, dIs, Bool.and_self, decide_true, decide_false, Bool.true_eq_false]
end

theorem bin_mod (i j : Int) (h : j ≠ 0) : dBin .mod (.fz (.int i)) (.fz (.int j)) = .ok (.fz (.int (i.fmod j))) := by
  simp only [dBin]; rw [if_pos (decide_eq_true h)]
theorem bin_fdiv (i j : Int) (h : j ≠ 0 ∧ j.natAbs < 1073741824) : dBin .fdiv (.fz (.int i)) (.fz (.int j)) = .ok (.fz (.int (i.fdiv j))) := by
  simp only [dBin]; rw [if_pos (decide_eq_true h)]
theorem bin_sq (i : Int) (h : i.natAbs < 2 ^ 64) : dBin .pow (.fz (.int i)) (.fz (.int 2)) = .ok (.fz (.int (i ^ 2))) := by
  simp only [dBin]; rw [if_pos (decide_eq_true ⟨by omega, by omega, h⟩)]; rfl
theorem pow18 : dBin .pow (.fz (.int 10)) (.fz (.int 18)) = .ok (.fz (.int 1000000000000000000)) := by kernel_rfl
theorem fm0 (a : Int) {b : Int} (h : 0 < b) : 0 ≤ a.fmod b := by rw [Int.fmod_eq_emod_of_nonneg a (by omega)]; exact Int.emod_nonneg a (by omega)
theorem fm1 (a : Int) {b : Int} (h : 0 < b) : a.fmod b < b := by rw [Int.fmod_eq_emod_of_nonneg a (by omega)]; exact Int.emod_lt_of_pos a h
def bodyG : List DS := [.ife (.and (.var 4) (.cmp .gt (.var 3) (.int 0))) [.app (.var 6) (.bin .mod (.var 3) (.var 8)), .asg (.nm 3) (.bin .fdiv (.var 3) (.var 8))] [.asg (.nm 5) (.bin .mod (.bin .pow (.bin .add (.var 5) (.bin .mul (.int 104729) (.bin .add (.var 7) (.int 1)))) (.int 2)) (.int 2147483587)), .app (.var 6) (.bin .mod (.bin .fdiv (.var 5) (.int 16)) (.var 8))]]
def ρD (cell turn : D) (num : Int) (wide : Bool) (seed : Int) (found : List T) (j7 j8 : Option Slot) : Ev := [some ⟨false, .fz cell⟩, some ⟨false, .fz turn⟩, some ⟨false, .fz (.lst [.int 15, .int 5, .int 18, .int 18])⟩, ownS (.int num), ownS (.bl wide), ownS (.int seed), some ⟨true, .lst found⟩, j7, j8]
theorem stepG (Γ : Gm) (mk : Str → List D → Option Xc) (M : Nat) (cell turn : D) (num : Int) (wide : Bool) (seed : Int) (found : List T) (k s : Int) (hk : 0 ≤ k ∧ k ≤ 10) (hs : 0 < s ∧ s ≤ 100) (hsd : 0 ≤ seed ∧ seed < 4294967296) (hf : found.length < 100) :
    ∃ num' seed' d, (0 ≤ d ∧ d < s) ∧ (0 ≤ seed' ∧ seed' < 4294967296) ∧ sts Γ mk M (ρD cell turn num wide seed found (ownS (.int k)) (ownS (.int s))) bodyG = .nx (ρD cell turn num' wide seed' (found ++ [.fz (.int d)]) (ownS (.int k)) (ownS (.int s))) := by
  have e1 : found.length < sizeLine := by rw [sizeLine_eq]; omega
  have md : ∀ a, dBin .mod (.fz (.int a)) (.fz (.int s)) = _ := fun a => bin_mod a s (by omega)
  have fd : ∀ a, dBin .fdiv (.fz (.int a)) (.fz (.int s)) = _ := fun a => bin_fdiv a s ⟨by omega, by omega⟩
  have f16 : ∀ a, dBin .fdiv (.fz (.int a)) (.fz (.int 16)) = _ := fun a => bin_fdiv a 16 ⟨by omega, by omega⟩
  have mp : ∀ a, dBin .mod (.fz (.int a)) (.fz (.int 2147483587)) = _ := fun a => bin_mod a 2147483587 (by omega)
  have ml : dBin .mul (.fz (.int 104729)) (.fz (.int (k + 1))) = _ := bin_muli 104729 (k + 1) ⟨by omega, by omega⟩
  have sq : dBin .pow (.fz (.int (seed + 104729 * (k + 1)))) (.fz (.int 2)) = _ := bin_sq _ (by omega)
  by_cases hw : wide = true ∧ 0 < num
  · obtain ⟨rfl, hn⟩ := hw
    have hd : decide ((0 : Int) < num) = true := decide_eq_true hn
    refine ⟨num.fdiv s, seed, num.fmod s, ⟨fm0 _ hs.1, fm1 _ hs.1⟩, hsd, ?_⟩
    unfold bodyG ρD ownS
    simp -implicitDefEqProofs only [e1, md, fd, dOrd, hd, path, ownL, modV, modT, fApp, callE, sts, st, ev, evs, List.map_cons, List.map_nil, List.cons_append, List.nil_append, List.length_cons, List.length_nil, Nat.sub_self, Nat.zero_add, Nat.reduceSub, Nat.reduceAdd, List.replicate, List.getElem?_cons_zero, List.getElem?_cons_succ, R.bind_ok, R.bind_ex, R.bind_no, R.out_ok, R.out_ex, R.out_no, ix_tup, ix_lst, ix_own, ix_scr, bin_add, bin_sub, atI_0, atI_1, atI_2, atI_3, atI_nat, R.of, R.map, sto, isPl, isFz, Bool.not_true, Bool.not_false, Bool.false_or, Bool.true_or, if_true, bindT_nm, bindT_tup, bindF_nil, bindF_cons, Option.bind_some, setV, List.set_cons_zero, List.set_cons_succ, Out.of, Out.then_nx, Out.then_ret, Bool.false_eq_true, if_false, reduceIte, eb_len, eb_intb, eb_inti, eb_abs, DP.len_tup, DP.len_lst, DP.len_own, er, dCmp, asB, eqD_int, unFz, Option.map_some, Option.map_none, Nat.reduceLeDiff, isNon, dIs, Bool.and_self, decide_true, decide_false, Bool.true_eq_false]
  · have hl := ((seed + 104729 * (k + 1)) ^ 2).fmod 2147483587
    refine ⟨num, ((seed + 104729 * (k + 1)) ^ 2).fmod 2147483587, ((((seed + 104729 * (k + 1)) ^ 2).fmod 2147483587).fdiv 16).fmod s, ⟨fm0 _ hs.1, fm1 _ hs.1⟩, ⟨fm0 _ (by omega), ?_⟩, ?_⟩
    · have := fm1 ((seed + 104729 * (k + 1)) ^ 2) (b := 2147483587) (by omega)
      omega
    · cases wide with
      | false =>
        unfold bodyG ρD ownS
        simp -implicitDefEqProofs only [e1, md, f16, mp, ml, sq, dOrd, path, ownL, modV, modT, fApp, callE, sts, st, ev, evs, List.map_cons, List.map_nil, List.cons_append, List.nil_append, List.length_cons, List.length_nil, Nat.sub_self, Nat.zero_add, Nat.reduceSub, Nat.reduceAdd, List.replicate, List.getElem?_cons_zero, List.getElem?_cons_succ, R.bind_ok, R.bind_ex, R.bind_no, R.out_ok, R.out_ex, R.out_no, ix_tup, ix_lst, ix_own, ix_scr, bin_add, bin_sub, atI_0, atI_1, atI_2, atI_3, atI_nat, R.of, R.map, sto, isPl, isFz, Bool.not_true, Bool.not_false, Bool.false_or, Bool.true_or, if_true, bindT_nm, bindT_tup, bindF_nil, bindF_cons, Option.bind_some, setV, List.set_cons_zero, List.set_cons_succ, Out.of, Out.then_nx, Out.then_ret, Bool.false_eq_true, if_false, reduceIte, eb_len, eb_intb, eb_inti, eb_abs, DP.len_tup, DP.len_lst, DP.len_own, er, dCmp, asB, eqD_int, unFz, Option.map_some, Option.map_none, Nat.reduceLeDiff, isNon, dIs, Bool.and_self, decide_true, decide_false, Bool.true_eq_false]
      | true =>
        have hd : decide ((0 : Int) < num) = false := decide_eq_false fun z => hw ⟨rfl, z⟩
        unfold bodyG ρD ownS
        simp -implicitDefEqProofs only [e1, md, f16, mp, ml, sq, dOrd, hd, path, ownL, modV, modT, fApp, callE, sts, st, ev, evs, List.map_cons, List.map_nil, List.cons_append, List.nil_append, List.length_cons, List.length_nil, Nat.sub_self, Nat.zero_add, Nat.reduceSub, Nat.reduceAdd, List.replicate, List.getElem?_cons_zero, List.getElem?_cons_succ, R.bind_ok, R.bind_ex, R.bind_no, R.out_ok, R.out_ex, R.out_no, ix_tup, ix_lst, ix_own, ix_scr, bin_add, bin_sub, atI_0, atI_1, atI_2, atI_3, atI_nat, R.of, R.map, sto, isPl, isFz, Bool.not_true, Bool.not_false, Bool.false_or, Bool.true_or, if_true, bindT_nm, bindT_tup, bindF_nil, bindF_cons, Option.bind_some, setV, List.set_cons_zero, List.set_cons_succ, Out.of, Out.then_nx, Out.then_ret, Bool.false_eq_true, if_false, reduceIte, eb_len, eb_intb, eb_inti, eb_abs, DP.len_tup, DP.len_lst, DP.len_own, er, dCmp, asB, eqD_int, unFz, Option.map_some, Option.map_none, Nat.reduceLeDiff, isNon, dIs, Bool.and_self, decide_true, decide_false, Bool.true_eq_false]
theorem enum4 : dEnum [.int 15, .int 5, .int 18, .int 18] = [.tup [.int 0, .int 15], .tup [.int 1, .int 5], .tup [.int 2, .int 18], .tup [.int 3, .int 18]] := rfl
theorem goG (Γ : Gm) (mk : Str → List D → Option Xc) (M : Nat) (cell turn : D) (num : Int) (wide : Bool) (seed : Int) (hsd : 0 ≤ seed ∧ seed < 4294967296) :
    ∃ d0 d1 d2 d3 num' seed' j7 j8, (0 ≤ d0 ∧ d0 < 15) ∧ (0 ≤ d1 ∧ d1 < 5) ∧ (0 ≤ d2 ∧ d2 < 18) ∧ (0 ≤ d3 ∧ d3 < 18) ∧
      forGo (.tup [.nm 7, .nm 8]) (fun ρ => sts Γ mk M ρ bodyG) [.tup [.int 0, .int 15], .tup [.int 1, .int 5], .tup [.int 2, .int 18], .tup [.int 3, .int 18]] (ρD cell turn num wide seed [] none none) = .nx (ρD cell turn num' wide seed' [.fz (.int d0), .fz (.int d1), .fz (.int d2), .fz (.int d3)] j7 j8) := by
  obtain ⟨n0, s0, d0, b0, h0, e0⟩ := stepG Γ mk M cell turn num wide seed [] 0 15 (by omega) (by omega) hsd (by simp)
  obtain ⟨n1, s1, d1, b1, h1, e1⟩ := stepG Γ mk M cell turn n0 wide s0 [.fz (.int d0)] 1 5 (by omega) (by omega) h0 (by simp)
  obtain ⟨n2, s2, d2, b2, h2, e2⟩ := stepG Γ mk M cell turn n1 wide s1 [.fz (.int d0), .fz (.int d1)] 2 18 (by omega) (by omega) h1 (by simp)
  obtain ⟨n3, s3, d3, b3, h3, e3⟩ := stepG Γ mk M cell turn n2 wide s2 [.fz (.int d0), .fz (.int d1), .fz (.int d2)] 3 18 (by omega) (by omega) h2 (by simp)
  refine ⟨d0, d1, d2, d3, n3, s3, ownS (.int 3), ownS (.int 18), b0, b1, b2, b3, ?_⟩
  have bd : ∀ (a b : Int) (num : Int) (seed : Int) (found : List T) (j7 j8 : Option Slot), bindT (.tup [.nm 7, .nm 8]) (.fz (.tup [.int a, .int b])) (ρD cell turn num wide seed found j7 j8) = some (ρD cell turn num wide seed found (ownS (.int a)) (ownS (.int b))) := fun a b num seed found j7 j8 => by
    rw [bindT_tup, bindF_cons, bindT_nm, Option.bind_some, bindF_cons, bindT_nm, Option.bind_some, bindF_nil]; rfl
  rw [forGo, bd]; simp only; rw [e0]; simp only [List.nil_append]
  rw [forGo, bd]; simp only; rw [e1]; simp only [List.cons_append, List.nil_append]
  rw [forGo, bd]; simp only; rw [e2]; simp only [List.cons_append, List.nil_append]
  rw [forGo, bd]; simp only; rw [e3]; simp only [List.cons_append, List.nil_append]
  rw [forGo]
theorem digits_ok (M k : Nat) (cell turn : Int) (ht : 0 ≤ turn ∧ turn ≤ 100) : ∃ d0 d1 d2 d3 : Int, (0 ≤ d0 ∧ d0 < 15) ∧ (0 ≤ d1 ∧ d1 < 5) ∧ (0 ≤ d2 ∧ d2 < 18) ∧ (0 ≤ d3 ∧ d3 < 18) ∧
    callK pg M (k+1) "_law_digits" [.fz (.int cell), .fz (.int turn), .fz (.lst [.int 15, .int 5, .int 18, .int 18])] = .ok (.lst [.fz (.int d0), .fz (.int d1), .fz (.int d2), .fz (.int d3)]) := by
  generalize hnum : (if cell < 0 then -cell else cell) = num
  have hf0 := fm0 num (b := 2147483647) (by omega)
  have hf1 := fm1 num (b := 2147483647) (by omega)
  obtain ⟨d0, d1, d2, d3, n', s', j7, j8, b0, b1, b2, b3, h⟩ := goG ⟨pg.glob, pg.sub, callK pg M k⟩ pg.mkX M (.int cell) (.int turn) num (decide ((1000000000000000000 : Int) ≤ num)) (num.fmod 2147483647 + 7919 * turn) ⟨by omega, by omega⟩
  refine ⟨d0, d1, d2, d3, b0, b1, b2, b3, ?_⟩
  refine call_is (df := d__law_digits) rfl rfl ?_
  rw [show d__law_digits.body = [.asg (.nm 3) (.bif .abs [.var 0]), .asg (.nm 4) (.cmp .ge (.var 3) (.bin .pow (.int 10) (.int 18))), .asg (.nm 5) (.bin .add (.bin .mod (.var 3) (.int 2147483647)) (.bin .mul (.int 7919) (.var 1))), .asg (.nm 6) (.lst []), .for_ (.tup [.nm 7, .nm 8]) (.enum (.var 2)) bodyG, .ret (.var 6)] from rfl]
  have md := bin_mod num 2147483647 (by omega)
  have ml := bin_muli 7919 turn ⟨by omega, by omega⟩
  unfold ρD ownS at h
  simp -implicitDefEqProofs only [hnum, md, ml, pow18, evi, itemsOf, enum4, dOrd, h, d__law_digits, stos, callE, sts, st, ev, evs, List.map_cons, List.map_nil, List.cons_append, List.nil_append, List.length_cons, List.length_nil, Nat.sub_self, Nat.zero_add, Nat.reduceSub, Nat.reduceAdd, List.replicate, List.getElem?_cons_zero, List.getElem?_cons_succ, R.bind_ok, R.bind_ex, R.bind_no, R.out_ok, R.out_ex, R.out_no, ix_tup, ix_lst, ix_own, ix_scr, bin_add, bin_sub, atI_0, atI_1, atI_2, atI_3, atI_nat, R.of, R.map, sto, isPl, isFz, Bool.not_true, Bool.not_false, Bool.false_or, Bool.true_or, if_true, bindT_nm, bindT_tup, bindF_nil, bindF_cons, Option.bind_some, setV, List.set_cons_zero, List.set_cons_succ, Out.of, Out.then_nx, Out.then_ret, Bool.false_eq_true, if_false, reduceIte, eb_len, eb_intb, eb_inti, eb_abs, DP.len_tup, DP.len_lst, DP.len_own, er, dCmp, asB, eqD_int, unFz, Option.map_some, Option.map_none, Nat.reduceLeDiff, isNon, dIs, Bool.and_self, decide_true, decide_false, Bool.true_eq_false]

end My

namespace My
open PySem DP PyProof
def isT (r : R T) : Bool := match r with | .ok (.fz (.bl b)) => b | _ => false
theorem isT_ok {r : R T} (h : isT r = true) : r = .ok (.fz (.bl true)) := by
  unfold isT at h
  split at h
  · rw [h]
  · cases h
theorem short_ok : callK pg 100000 19 "_law_short_right" [] = .ok (.fz (.bl true)) := isT_ok (by decide +kernel)
def bodyL : List DS := [.asg (.nm 7) (.fr (.call "_law_digits" [.var 6, .var 5, .fr (.lst [.int 15, .int 5, .int 18, .int 18])])), .ife (.not (.call "_law_right" [.bin .add (.int 1) (.ix (.var 7) (.int 0)), .ix (.var 7) (.int 1), .bin .add (.int 1) (.ix (.var 7) (.int 2)), .bin .add (.int 1) (.ix (.var 7) (.int 3))])) [.ret (.bl false)] []]
def body5 : List DS := [.ife (.not (.call "_law_right" [.var 1, .var 2, .var 3, .var 4])) [.ret (.bl false)] []]
def itL : DE := .enum (.bin .add (.fr (.sl (.var 0) none (some (.int 40)))) (.fr (.lst [.int 4])))
theorem evi_itL (Γ : Gm) (ns : List Int) (h : ns.length ≤ 63) (x1 x2 x3 x4 x5 x6 x7 : Option Slot) : ∃ zs : List Int, zs.length ≤ 64 ∧ evi Γ [some ⟨false, .fz (.scr ns)⟩, x1, x2, x3, x4, x5, x6, x7] itL = .ok (dEnum (zs.map D.int)) := by
  refine ⟨cutL ns none (some 40) ++ [4], ?_, ?_⟩
  · unfold cutL
    rw [List.length_append, List.length_take, List.length_drop, List.length_singleton]
    omega
  · have hl : (cutL ns none (some 40)).length ≤ 63 := by
      unfold cutL
      rw [List.length_take, List.length_drop]
      omega
    generalize hz : cutL ns none (some 40) = zs at hl ⊢
    have ha : dBin .add (.fz (.lst (zs.map D.int))) (.fz (.lst [.int 4])) = _ := bin_addl (zs.map D.int) [.int 4] (by rw [sizeLine_eq, List.length_map, List.length_singleton]; omega)
    have hs : dSl (.fz (.scr ns)) none (some 40) = .ok (.lst ((zs.map D.int).map .fz)) := by
      have h1 : dSl (.fz (.scr ns)) none (some 40) = .ok (.lst ((cutL ns none (some 40)).map fun n => T.fz (D.int n))) := rfl
      rw [h1, hz, List.map_map]; rfl
    have hu : unFz ((zs.map D.int ++ [D.int 4]).map T.fz) = some (zs.map D.int ++ [D.int 4]) := by
      generalize zs.map D.int ++ [D.int 4] = ds
      induction ds with
      | nil => rfl
      | cons d ds ih => rw [List.map_cons, unFz, ih]; rfl
    have hit : itemsOf false (.lst ((zs.map D.int ++ [D.int 4]).map T.fz)) = .ok (zs.map D.int ++ [D.int 4]) := by
      have h2 : itemsOf false (.lst ((zs.map D.int ++ [D.int 4]).map T.fz)) = R.of (unFz ((zs.map D.int ++ [D.int 4]).map T.fz)) := rfl
      rw [h2, hu]; rfl
    unfold itL
    simp -implicitDefEqProofs only [evi, evo, hs, ers_fz, ha, hit, stos, ers, callE, sts, st, ev, evs, List.map_cons, List.map_nil, List.cons_append, List.nil_append, List.length_cons, List.length_nil, Nat.sub_self, Nat.zero_add, Nat.reduceSub, Nat.reduceAdd, List.replicate, List.getElem?_cons_zero, List.getElem?_cons_succ, R.bind_ok, R.bind_ex, R.bind_no, R.out_ok, R.out_ex, R.out_no, ix_tup, ix_lst, ix_own, ix_scr, bin_add, bin_sub, atI_0, atI_1, atI_2, atI_3, atI_nat, R.of, R.map, sto, isPl, isFz, Bool.not_true, Bool.not_false, Bool.false_or, Bool.true_or, if_true, bindT_nm, bindT_tup, bindF_nil, bindF_cons, Option.bind_some, setV, List.set_cons_zero, List.set_cons_succ, Out.of, Out.then_nx, Out.then_ret, Bool.false_eq_true, if_false, reduceIte, eb_len, eb_intb, eb_inti, eb_abs, DP.len_tup, DP.len_lst, DP.len_own, er, dCmp, asB, eqD_int, unFz, Option.map_some, Option.map_none, Nat.reduceLeDiff, isNon, dIs, Bool.and_self, decide_true, decide_false, Bool.true_eq_false]
    rw [List.map_append]; rfl
theorem enum_mem {zs : List Int} (h : zs.length ≤ 64) : ∀ d ∈ dEnum (zs.map D.int), ∃ t c : Int, (0 ≤ t ∧ t ≤ 100) ∧ d = .tup [.int t, .int c] := by
  intro d hd
  unfold dEnum at hd
  obtain ⟨p, hp, rfl⟩ := List.mem_map.mp hd
  obtain ⟨x, j⟩ := p
  have hj := List.mem_zipIdx hp
  obtain ⟨h1, h2, h3⟩ := hj
  rw [List.length_map] at h2
  simp only [List.getElem_map] at h3
  exact ⟨j, _, ⟨by omega, by omega⟩, by rw [h3]⟩
theorem stepL (ns : List Int) (x1 x2 x3 x4 j7 : Option Slot) (t c : Int) (ht : 0 ≤ t ∧ t ≤ 100) :
    ∃ j, sts ⟨pg.glob, pg.sub, callK pg 100000 19⟩ pg.mkX 100000 [some ⟨false, .fz (.scr ns)⟩, x1, x2, x3, x4, ownS (.int t), ownS (.int c), j7] bodyL = .nx [some ⟨false, .fz (.scr ns)⟩, x1, x2, x3, x4, ownS (.int t), ownS (.int c), j] := by
  obtain ⟨d0, d1, d2, d3, b0, b1, b2, b3, h⟩ := digits_ok 100000 18 c t ht
  obtain ⟨n0, rfl⟩ := Int.eq_ofNat_of_zero_le b0.1
  obtain ⟨n1, rfl⟩ := Int.eq_ofNat_of_zero_le b1.1
  obtain ⟨n2, rfl⟩ := Int.eq_ofNat_of_zero_le b2.1
  obtain ⟨n3, rfl⟩ := Int.eq_ofNat_of_zero_le b3.1
  have r := right_ok 11 (1 + n0) n1 (1 + n2) (1 + n3) (by omega) (by omega) (by omega) (by omega)
  rw [Int.natCast_add, Int.natCast_add, Int.natCast_add, Int.natCast_one] at r
  have h : callK pg 100000 19 "_law_digits" [.fz (.int c), .fz (.int t), .fz (.lst [.int 15, .int 5, .int 18, .int 18])] = _ := h
  have r : callK pg 100000 19 "_law_right" [.fz (.int (1 + n0)), .fz (.int n1), .fz (.int (1 + n2)), .fz (.int (1 + n3))] = _ := r
  refine ⟨ownS (.lst [.int n0, .int n1, .int n2, .int n3]), ?_⟩
  unfold bodyL ownS
  simp -implicitDefEqProofs only [h, r, stos, ers, callE, sts, st, ev, evs, List.map_cons, List.map_nil, List.cons_append, List.nil_append, List.length_cons, List.length_nil, Nat.sub_self, Nat.zero_add, Nat.reduceSub, Nat.reduceAdd, List.replicate, List.getElem?_cons_zero, List.getElem?_cons_succ, R.bind_ok, R.bind_ex, R.bind_no, R.out_ok, R.out_ex, R.out_no, ix_tup, ix_lst, ix_own, ix_scr, bin_add, bin_sub, atI_0, atI_1, atI_2, atI_3, atI_nat, R.of, R.map, sto, isPl, isFz, Bool.not_true, Bool.not_false, Bool.false_or, Bool.true_or, if_true, bindT_nm, bindT_tup, bindF_nil, bindF_cons, Option.bind_some, setV, List.set_cons_zero, List.set_cons_succ, Out.of, Out.then_nx, Out.then_ret, Bool.false_eq_true, if_false, reduceIte, eb_len, eb_intb, eb_inti, eb_abs, DP.len_tup, DP.len_lst, DP.len_own, er, dCmp, asB, eqD_int, unFz, Option.map_some, Option.map_none, Nat.reduceLeDiff, isNon, dIs, Bool.and_self, decide_true, decide_false, Bool.true_eq_false]
theorem goL (ns : List Int) (x1 x2 x3 x4 : Option Slot) : ∀ (ds : List D), (∀ d ∈ ds, ∃ t c : Int, (0 ≤ t ∧ t ≤ 100) ∧ d = .tup [.int t, .int c]) → ∀ (j5 j6 j7 : Option Slot), ∃ ρ', forGo (.tup [.nm 5, .nm 6]) (fun ρ => sts ⟨pg.glob, pg.sub, callK pg 100000 19⟩ pg.mkX 100000 ρ bodyL) ds [some ⟨false, .fz (.scr ns)⟩, x1, x2, x3, x4, j5, j6, j7] = .nx ρ'
  | [], _, _, _, _ => ⟨_, rfl⟩
  | d :: ds, h, j5, j6, j7 => by
    obtain ⟨t, c, ht, rfl⟩ := h d List.mem_cons_self
    obtain ⟨j, hj⟩ := stepL ns x1 x2 x3 x4 j7 t c ht
    obtain ⟨ρ', h'⟩ := goL ns x1 x2 x3 x4 ds (fun e he => h e (List.mem_cons_of_mem _ he)) (ownS (.int t)) (ownS (.int c)) j
    refine ⟨ρ', ?_⟩
    rw [forGo, bindT_tup, bindF_cons, bindT_nm, Option.bind_some, bindF_cons, bindT_nm, Option.bind_some, bindF_nil]
    simp only
    rw [show setV (setV [some ⟨false, .fz (.scr ns)⟩, x1, x2, x3, x4, j5, j6, j7] 5 (.fz (.int t))) 6 (.fz (.int c)) = [some ⟨false, .fz (.scr ns)⟩, x1, x2, x3, x4, ownS (.int t), ownS (.int c), j7] from rfl, hj]
    exact h'
theorem step5 (ns : List Int) (a b c d : Int) (r : callK pg 100000 19 "_law_right" [.fz (.int a), .fz (.int b), .fz (.int c), .fz (.int d)] = .ok (.fz (.bl true))) :
    sts ⟨pg.glob, pg.sub, callK pg 100000 19⟩ pg.mkX 100000 [some ⟨false, .fz (.scr ns)⟩, ownS (.int a), ownS (.int b), ownS (.int c), ownS (.int d), none, none, none] body5 = .nx [some ⟨false, .fz (.scr ns)⟩, ownS (.int a), ownS (.int b), ownS (.int c), ownS (.int d), none, none, none] := by
  unfold body5 ownS
  simp -implicitDefEqProofs only [r, callE, sts, st, ev, evs, List.map_cons, List.map_nil, List.cons_append, List.nil_append, List.length_cons, List.length_nil, Nat.sub_self, Nat.zero_add, Nat.reduceSub, Nat.reduceAdd, List.replicate, List.getElem?_cons_zero, List.getElem?_cons_succ, R.bind_ok, R.bind_ex, R.bind_no, R.out_ok, R.out_ex, R.out_no, ix_tup, ix_lst, ix_own, ix_scr, bin_add, bin_sub, atI_0, atI_1, atI_2, atI_3, atI_nat, R.of, R.map, sto, isPl, isFz, Bool.not_true, Bool.not_false, Bool.false_or, Bool.true_or, if_true, bindT_nm, bindT_tup, bindF_nil, bindF_cons, Option.bind_some, setV, List.set_cons_zero, List.set_cons_succ, Out.of, Out.then_nx, Out.then_ret, Bool.false_eq_true, if_false, reduceIte, eb_len, eb_intb, eb_inti, eb_abs, DP.len_tup, DP.len_lst, DP.len_own, er, dCmp, asB, eqD_int, unFz, Option.map_some, Option.map_none, Nat.reduceLeDiff, isNon, dIs, Bool.and_self, decide_true, decide_false, Bool.true_eq_false]
theorem bd5 (s x1 x2 x3 x4 : Option Slot) (a b c d : Int) : bindT (.tup [.nm 1, .nm 2, .nm 3, .nm 4]) (.fz (.tup [.int a, .int b, .int c, .int d])) [s, x1, x2, x3, x4, none, none, none] = some [s, ownS (.int a), ownS (.int b), ownS (.int c), ownS (.int d), none, none, none] := by
  rw [bindT_tup, bindF_cons, bindT_nm, Option.bind_some, bindF_cons, bindT_nm, Option.bind_some, bindF_cons, bindT_nm, Option.bind_some, bindF_cons, bindT_nm, Option.bind_some, bindF_nil]; rfl
theorem go5 (ns : List Int) : ∀ (ds : List D), (∀ d ∈ ds, ∃ a b c e : Int, d = .tup [.int a, .int b, .int c, .int e] ∧ callK pg 100000 19 "_law_right" [.fz (.int a), .fz (.int b), .fz (.int c), .fz (.int e)] = .ok (.fz (.bl true))) → ∀ (x1 x2 x3 x4 : Option Slot), ∃ y1 y2 y3 y4, forGo (.tup [.nm 1, .nm 2, .nm 3, .nm 4]) (fun ρ => sts ⟨pg.glob, pg.sub, callK pg 100000 19⟩ pg.mkX 100000 ρ body5) ds [some ⟨false, .fz (.scr ns)⟩, x1, x2, x3, x4, none, none, none] = .nx [some ⟨false, .fz (.scr ns)⟩, y1, y2, y3, y4, none, none, none]
  | [], _, x1, x2, x3, x4 => ⟨x1, x2, x3, x4, rfl⟩
  | d :: ds, h, x1, x2, x3, x4 => by
    obtain ⟨a, b, c, e, rfl, r⟩ := h d List.mem_cons_self
    obtain ⟨y1, y2, y3, y4, h'⟩ := go5 ns ds (fun e he => h e (List.mem_cons_of_mem _ he)) (ownS (.int a)) (ownS (.int b)) (ownS (.int c)) (ownS (.int e))
    refine ⟨y1, y2, y3, y4, ?_⟩
    rw [forGo, bd5]
    simp only
    rw [step5 ns a b c e r]
    exact h'
def it5 : DE := .fr (.lst [.fr (.tup [.int 10, .int 8, .int 8, .int 10]), .fr (.tup [.int 10, .int 9, .int 8, .int 10]), .fr (.tup [.int 9, .int 0, .int 9, .int 10]), .fr (.tup [.int 9, .int 1, .int 9, .int 10]), .fr (.tup [.int 9, .int 2, .int 9, .int 10])])
theorem rightI (a b c e : Nat) (h1 : a ≤ 15) (h2 : b ≤ 9) (h3 : c ≤ 18) (h4 : e ≤ 18) : ∃ a' b' c' e' : Int, D.tup [.int (a : Int), .int (b : Int), .int (c : Int), .int (e : Int)] = .tup [.int a', .int b', .int c', .int e'] ∧ callK pg 100000 19 "_law_right" [.fz (.int a'), .fz (.int b'), .fz (.int c'), .fz (.int e')] = .ok (.fz (.bl true)) := ⟨a, b, c, e, rfl, right_ok 11 a b c e h1 h2 h3 h4⟩
theorem law_true (ns : List Int) (h : ns.length ≤ 63) : callK pg 100000 20 "law" [.fz (.scr ns)] = .ok (.fz (.bl true)) := by
  have s := short_ok
  obtain ⟨y1, y2, y3, y4, h5⟩ := go5 ns [.tup [.int ((10 : Nat) : Int), .int ((8 : Nat) : Int), .int ((8 : Nat) : Int), .int ((10 : Nat) : Int)], .tup [.int ((10 : Nat) : Int), .int ((9 : Nat) : Int), .int ((8 : Nat) : Int), .int ((10 : Nat) : Int)], .tup [.int ((9 : Nat) : Int), .int ((0 : Nat) : Int), .int ((9 : Nat) : Int), .int ((10 : Nat) : Int)], .tup [.int ((9 : Nat) : Int), .int ((1 : Nat) : Int), .int ((9 : Nat) : Int), .int ((10 : Nat) : Int)], .tup [.int ((9 : Nat) : Int), .int ((2 : Nat) : Int), .int ((9 : Nat) : Int), .int ((10 : Nat) : Int)]] (by
    intro d hd
    simp only [List.mem_cons, List.not_mem_nil, or_false] at hd
    rcases hd with rfl | rfl | rfl | rfl | rfl
    · exact rightI 10 8 8 10 (by omega) (by omega) (by omega) (by omega)
    · exact rightI 10 9 8 10 (by omega) (by omega) (by omega) (by omega)
    · exact rightI 9 0 9 10 (by omega) (by omega) (by omega) (by omega)
    · exact rightI 9 1 9 10 (by omega) (by omega) (by omega) (by omega)
    · exact rightI 9 2 9 10 (by omega) (by omega) (by omega) (by omega)) none none none none
  obtain ⟨zs, hz, hi⟩ := evi_itL ⟨pg.glob, pg.sub, callK pg 100000 19⟩ ns h y1 y2 y3 y4 none none none
  obtain ⟨ρ', hg⟩ := goL ns y1 y2 y3 y4 _ (enum_mem hz) none none none
  refine call_is (k := 19) (df := d_law) rfl rfl ?_
  rw [show d_law.body = [.ife (.not (.call "_law_short_right" [])) [.ret (.bl false)] [], .for_ (.tup [.nm 1, .nm 2, .nm 3, .nm 4]) it5 body5, .for_ (.tup [.nm 5, .nm 6]) itL bodyL, .ret (.bl true)] from rfl]
  have hit : evi ⟨pg.glob, pg.sub, callK pg 100000 19⟩ [some ⟨false, .fz (.scr ns)⟩, none, none, none, none, none, none, none] it5 = .ok [.tup [.int ((10 : Nat) : Int), .int ((8 : Nat) : Int), .int ((8 : Nat) : Int), .int ((10 : Nat) : Int)], .tup [.int ((10 : Nat) : Int), .int ((9 : Nat) : Int), .int ((8 : Nat) : Int), .int ((10 : Nat) : Int)], .tup [.int ((9 : Nat) : Int), .int ((0 : Nat) : Int), .int ((9 : Nat) : Int), .int ((10 : Nat) : Int)], .tup [.int ((9 : Nat) : Int), .int ((1 : Nat) : Int), .int ((9 : Nat) : Int), .int ((10 : Nat) : Int)], .tup [.int ((9 : Nat) : Int), .int ((2 : Nat) : Int), .int ((9 : Nat) : Int), .int ((10 : Nat) : Int)]] := by kernel_rfl
  simp -implicitDefEqProofs only [s, hit, h5, hi, hg, d_law, callE, sts, st, ev, evs, List.map_cons, List.map_nil, List.cons_append, List.nil_append, List.length_cons, List.length_nil, Nat.sub_self, Nat.zero_add, Nat.reduceSub, Nat.reduceAdd, List.replicate, List.getElem?_cons_zero, List.getElem?_cons_succ, R.bind_ok, R.bind_ex, R.bind_no, R.out_ok, R.out_ex, R.out_no, ix_tup, ix_lst, ix_own, ix_scr, bin_add, bin_sub, atI_0, atI_1, atI_2, atI_3, atI_nat, R.of, R.map, sto, isPl, isFz, Bool.not_true, Bool.not_false, Bool.false_or, Bool.true_or, if_true, bindT_nm, bindT_tup, bindF_nil, bindF_cons, Option.bind_some, setV, List.set_cons_zero, List.set_cons_succ, Out.of, Out.then_nx, Out.then_ret, Bool.false_eq_true, if_false, reduceIte, eb_len, eb_intb, eb_inti, eb_abs, DP.len_tup, DP.len_lst, DP.len_own, er, dCmp, asB, eqD_int, unFz, Option.map_some, Option.map_none, Nat.reduceLeDiff, isNon, dIs, Bool.and_self, decide_true, decide_false, Bool.true_eq_false]
end My

namespace My
open PySem PySem.Spec PyProof.Rows L2 DP
theorem mem_look {α β : Type} [BEq α] [LawfulBEq α] : ∀ {l : List (α × β)} {a : α} {b : β}, l.lookup a = some b → (a, b) ∈ l
  | [], _, _, h => by cases h
  | (c, d) :: l, a, b, h => by
    rw [List.lookup_cons] at h
    cases e : a == c with
    | true => rw [e] at h; cases h; rw [eq_of_beq e]; exact List.mem_cons_self
    | false => rw [e] at h; exact List.mem_cons_of_mem _ (mem_look h)
section
open PySem.W
variable {K : Frag} {t : Value} {C D : Addr} {b : Bool}
theorem kitCls_own (i : isClsIn K C = true) (ty : typeIn K (.ref C) = some (.type "type")) (s : subIn K t (.ref C) = some b) : kitCls K t (.ref C) = some b := by
  have e2 : ((clsIn K C).isSome && typeIn K (.ref C) == some (.type "type")) = true := by
    have h2' : (clsIn K C).isSome = true := i
    rw [h2', ty] <;> rfl
  show (if ((clsIn K C).isSome && typeIn K (.ref C) == some (.type "type")) = true then subIn K t (.ref C) else none) = some b
  rw [if_pos e2]; exact s
theorem kit_own (i : isClsIn K C = true) (ty : typeIn K (.ref C) = some (.type "type")) (s : subIn K t (.ref C) = some b) (n : t ≠ .ref C) : kitOne K t (.ref C) = some b := by
  unfold kitOne
  rw [if_neg (by simpa using n)]
  exact kitCls_own i ty s
theorem kit_own' (i : isClsIn K C = true) (ty : typeIn K (.ref C) = some (.type "type")) (s : subIn K t (.ref C) = some b) (n : t = .ref C → b = true) : kitOne K t (.ref C) = some b := by
  by_cases h : t = .ref C
  · unfold kitOne
    rw [if_pos (by simpa using h), n h]
  · exact kit_own i ty s h
theorem ne_sub (h : subIn K (.ref D) (.ref D) = some true) (s : subIn K (.ref D) (.ref C) = some false) : Value.ref D = .ref C → false = true := fun e => by
  rw [← e, h] at s; cases s
theorem exm_own (bs : subIn K (.ref C) (.type "BaseException") = some true) (i : isClsIn K C = true) (ty : typeIn K (.ref C) = some (.type "type")) (s : subIn K t (.ref C) = some b) : exmOne K t (.ref C) = some b := by
  unfold exmOne
  rw [if_pos (by rw [bs] <;> rfl)]
  exact kitCls_own i ty s
theorem kit_blt {T : String} (m : kitMeta T = true) (s : subIn K t (.type T) = some b) (n : t ≠ .type T) : kitOne K t (.type T) = some b := by
  unfold kitOne
  rw [if_neg (by simpa using n)]
  show (if kitMeta T = true then subIn K t (.type T) else none) = some b
  rw [if_pos m]; exact s
theorem exm_blt {T : String} (bs : subIn K (.type T) (.type "BaseException") = some true) (m : kitMeta T = true) (s : subIn K (.ref D) (.type T) = some b) : exmOne K (.ref D) (.type T) = some b := by
  unfold exmOne
  rw [if_pos (by rw [bs] <;> rfl)]
  show (if kitMeta T = true then subIn K (.ref D) (.type T) else none) = some b
  rw [if_pos m]; exact s
end
def topS (i : Nat) : Stmt := PySem.Challenge.pw_roundhand_k43_unrolled_at_the_bound.main.body.getD i (.Pass ⟨0, 0, 0, 0⟩)
def Cn : Str → Bool := fun c => decide (c ∈ clsL)
def Rn : Str → Bool := fun c => decide (c ∈ rsL)
theorem tx_is_whole : mSs (hasD pg) Cn Rn ["thing"] (defScope (topS 1)) b_is_whole (defBody (topS 1)) = true := by decide +kernel
theorem sc_is_whole : FnScope ["thing"] ["thing"] (defScope (topS 1)) := ⟨rfl, rfl, rfl, by decide +kernel, rfl, by decide +kernel, by decide +kernel⟩
theorem tx_is_within : mSs (hasD pg) Cn Rn ["thing", "low", "high"] (defScope (topS 2)) b_is_within (defBody (topS 2)) = true := by decide +kernel
theorem sc_is_within : FnScope ["thing", "low", "high"] ["thing", "low", "high"] (defScope (topS 2)) := ⟨rfl, rfl, rfl, by decide +kernel, rfl, by decide +kernel, by decide +kernel⟩
theorem tx_many_stores : mSs (hasD pg) Cn Rn ["boxes", "many", "name", "worths", "first"] (defScope (topS 3)) b_many_stores (defBody (topS 3)) = true := by decide +kernel
theorem sc_many_stores : FnScope ["boxes", "many", "name", "worths", "first"] ["boxes"] (defScope (topS 3)) := ⟨rfl, rfl, rfl, by decide +kernel, rfl, by decide +kernel, by decide +kernel⟩
theorem tx_first_store : mSs (hasD pg) Cn Rn ["boxes", "name", "worths", "first"] (defScope (topS 4)) b_first_store (defBody (topS 4)) = true := by decide +kernel
theorem sc_first_store : FnScope ["boxes", "name", "worths", "first"] ["boxes"] (defScope (topS 4)) := ⟨rfl, rfl, rfl, by decide +kernel, rfl, by decide +kernel, by decide +kernel⟩
theorem tx_store_by : mSs (hasD pg) Cn Rn ["boxes", "number", "found", "name", "worths", "first"] (defScope (topS 5)) b_store_by (defBody (topS 5)) = true := by decide +kernel
theorem sc_store_by : FnScope ["boxes", "number", "found", "name", "worths", "first"] ["boxes", "number"] (defScope (topS 5)) := ⟨rfl, rfl, rfl, by decide +kernel, rfl, by decide +kernel, by decide +kernel⟩
theorem tx_put_into : mSs (hasD pg) Cn Rn ["store", "box", "worth"] (defScope (topS 6)) b_put_into (defBody (topS 6)) = true := by decide +kernel
theorem sc_put_into : FnScope ["store", "box", "worth"] ["store", "box", "worth"] (defScope (topS 6)) := ⟨rfl, rfl, rfl, by decide +kernel, rfl, by decide +kernel, by decide +kernel⟩
theorem tx_first_leaf : mSs (hasD pg) Cn Rn ["scroll", "boxes", "rounds", "procs", "stores"] (defScope (topS 15)) b_first_leaf (defBody (topS 15)) = true := by decide +kernel
theorem sc_first_leaf : FnScope ["scroll", "boxes", "rounds", "procs", "stores"] ["scroll"] (defScope (topS 15)) := ⟨rfl, rfl, rfl, by decide +kernel, rfl, by decide +kernel, by decide +kernel⟩
theorem tx_end_of : mSs (hasD pg) Cn Rn ["scroll", "proc"] (defScope (topS 16)) b_end_of (defBody (topS 16)) = true := by decide +kernel
theorem sc_end_of : FnScope ["scroll", "proc"] ["scroll", "proc"] (defScope (topS 16)) := ⟨rfl, rfl, rfl, by decide +kernel, rfl, by decide +kernel, by decide +kernel⟩
theorem tx_is_counted : mSs (hasD pg) Cn Rn ["scroll", "proc", "place"] (defScope (topS 17)) b_is_counted (defBody (topS 17)) = true := by decide +kernel
theorem sc_is_counted : FnScope ["scroll", "proc", "place"] ["scroll", "proc", "place"] (defScope (topS 17)) := ⟨rfl, rfl, rfl, by decide +kernel, rfl, by decide +kernel, by decide +kernel⟩
theorem tx_with_store : mSs (hasD pg) Cn Rn ["leaf", "store", "page", "found", "pages", "margins"] (defScope (topS 18)) b_with_store (defBody (topS 18)) = true := by decide +kernel
theorem sc_with_store : FnScope ["leaf", "store", "page", "found", "pages", "margins"] ["leaf", "store"] (defScope (topS 18)) := ⟨rfl, rfl, rfl, by decide +kernel, rfl, by decide +kernel, by decide +kernel⟩
theorem tx_box_moves : mSs (hasD pg) Cn Rn ["row", "leaf", "rounds", "store", "holds"] (defScope (topS 19)) b_box_moves (defBody (topS 19)) = true := by decide +kernel
theorem sc_box_moves : FnScope ["row", "leaf", "rounds", "store", "holds"] ["row", "leaf", "rounds"] (defScope (topS 19)) := ⟨rfl, rfl, rfl, by decide +kernel, rfl, by decide +kernel, by decide +kernel⟩
theorem tx_on_moves : mSs (hasD pg) Cn Rn ["row", "leaf", "rounds", "here", "end", "page", "found", "pages", "margins", "told"] (defScope (topS 20)) b_on_moves (defBody (topS 20)) = true := by decide +kernel
theorem sc_on_moves : FnScope ["row", "leaf", "rounds", "here", "end", "page", "found", "pages", "margins", "told"] ["row", "leaf", "rounds", "here", "end"] (defScope (topS 20)) := ⟨rfl, rfl, rfl, by decide +kernel, rfl, by decide +kernel, by decide +kernel⟩
theorem tx_opened : mSs (hasD pg) Cn Rn ["scroll", "leaf", "choice", "boxes", "rounds", "procs", "page", "found", "pages", "margins", "stores", "number"] (defScope (topS 21)) b_opened (defBody (topS 21)) = true := by decide +kernel
theorem sc_opened : FnScope ["scroll", "leaf", "choice", "boxes", "rounds", "procs", "page", "found", "pages", "margins", "stores", "number"] ["scroll", "leaf", "choice"] (defScope (topS 21)) := ⟨rfl, rfl, rfl, by decide +kernel, rfl, by decide +kernel, by decide +kernel⟩
theorem tx_open_moves : mSs (hasD pg) Cn Rn ["scroll", "row", "leaf", "many", "number", "choice"] (defScope (topS 22)) b_open_moves (defBody (topS 22)) = true := by decide +kernel
theorem sc_open_moves : FnScope ["scroll", "row", "leaf", "many", "number", "choice"] ["scroll", "row", "leaf"] (defScope (topS 22)) := ⟨rfl, rfl, rfl, by decide +kernel, rfl, by decide +kernel, by decide +kernel⟩
theorem tx_moves : mSs (hasD pg) Cn Rn ["scroll", "proc", "place", "leaf", "row", "page", "found", "pages", "margins", "choice", "to"] (defScope (topS 23)) b_moves (defBody (topS 23)) = true := by decide +kernel
theorem sc_moves : FnScope ["scroll", "proc", "place", "leaf", "row", "page", "found", "pages", "margins", "choice", "to"] ["scroll", "proc", "place", "leaf"] (defScope (topS 23)) := ⟨rfl, rfl, rfl, by decide +kernel, rfl, by decide +kernel, by decide +kernel⟩
theorem tx_are_stores : mSs (hasD pg) Cn Rn ["thing", "boxes", "many", "store", "holds", "box"] (defScope (topS 25)) b_are_stores (defBody (topS 25)) = true := by decide +kernel
theorem sc_are_stores : FnScope ["thing", "boxes", "many", "store", "holds", "box"] ["thing", "boxes", "many"] (defScope (topS 25)) := ⟨rfl, rfl, rfl, by decide +kernel, rfl, by decide +kernel, by decide +kernel⟩
theorem tx_is_leaf : mSs (hasD pg) Cn Rn ["scroll", "thing", "boxes", "rounds", "procs"] (defScope (topS 26)) b_is_leaf (defBody (topS 26)) = true := by decide +kernel
theorem sc_is_leaf : FnScope ["scroll", "thing", "boxes", "rounds", "procs"] ["scroll", "thing"] (defScope (topS 26)) := ⟨rfl, rfl, rfl, by decide +kernel, rfl, by decide +kernel, by decide +kernel⟩
theorem tx_named_in : mSs (hasD pg) Cn Rn ["deed", "book", "number", "key"] (defScope (topS 29)) b_named_in (defBody (topS 29)) = true := by decide +kernel
theorem sc_named_in : FnScope ["deed", "book", "number", "key"] ["deed", "book", "number", "key"] (defScope (topS 29)) := ⟨rfl, rfl, rfl, by decide +kernel, rfl, by decide +kernel, by decide +kernel⟩
theorem tx_chosen : mSs (hasD pg) Cn Rn ["scroll", "proc", "place", "leaf", "deed", "choice", "to", "later"] (defScope (topS 30)) b_chosen (defBody (topS 30)) = true := by decide +kernel
theorem sc_chosen : FnScope ["scroll", "proc", "place", "leaf", "deed", "choice", "to", "later"] ["scroll", "proc", "place", "leaf", "deed"] (defScope (topS 30)) := ⟨rfl, rfl, rfl, by decide +kernel, rfl, by decide +kernel, by decide +kernel⟩
theorem tx_walk_of : mSs (hasD pg) Cn Rn ["scroll", "book", "number", "walks", "proc", "leaf", "deeds", "place", "counted", "many", "deed", "row", "behind", "named"] (defScope (topS 31)) b_walk_of (defBody (topS 31)) = true := by decide +kernel
theorem sc_walk_of : FnScope ["scroll", "book", "number", "walks", "proc", "leaf", "deeds", "place", "counted", "many", "deed", "row", "behind", "named"] ["scroll", "book", "number", "walks"] (defScope (topS 31)) := ⟨rfl, rfl, rfl, by decide +kernel, rfl, by decide +kernel, by decide +kernel⟩
theorem tx_walks_of : mSs (hasD pg) Cn Rn ["scroll", "book", "found", "number", "walk"] (defScope (topS 32)) b_walks_of (defBody (topS 32)) = true := by decide +kernel
theorem sc_walks_of : FnScope ["scroll", "book", "found", "number", "walk"] ["scroll", "book"] (defScope (topS 32)) := ⟨rfl, rfl, rfl, by decide +kernel, rfl, by decide +kernel, by decide +kernel⟩
theorem tx_is_way : mSs (hasD pg) Cn Rn ["scroll", "thing"] (defScope (topS 33)) b_is_way (defBody (topS 33)) = true := by decide +kernel
theorem sc_is_way : FnScope ["scroll", "thing"] ["scroll", "thing"] (defScope (topS 33)) := ⟨rfl, rfl, rfl, by decide +kernel, rfl, by decide +kernel, by decide +kernel⟩
theorem tx_is_book : mSs (hasD pg) Cn Rn ["scroll", "thing", "way"] (defScope (topS 34)) b_is_book (defBody (topS 34)) = true := by decide +kernel
theorem sc_is_book : FnScope ["scroll", "thing", "way"] ["scroll", "thing"] (defScope (topS 34)) := ⟨rfl, rfl, rfl, by decide +kernel, rfl, by decide +kernel, by decide +kernel⟩
theorem tx_book_tells : mSs (hasD pg) Cn Rn ["scroll", "book"] (defScope (topS 35)) b_book_tells (defBody (topS 35)) = true := by decide +kernel
theorem sc_book_tells : FnScope ["scroll", "book"] ["scroll", "book"] (defScope (topS 35)) := ⟨rfl, rfl, rfl, by decide +kernel, rfl, by decide +kernel, by decide +kernel⟩
theorem tx_unrolled : mSs (hasD pg) Cn Rn ["scroll", "book", "run", "piled", "number", "at", "deeds"] (defScope (topS 36)) b_unrolled (defBody (topS 36)) = true := by decide +kernel
theorem sc_unrolled : FnScope ["scroll", "book", "run", "piled", "number", "at", "deeds"] ["scroll", "book"] (defScope (topS 36)) := ⟨rfl, rfl, rfl, by decide +kernel, rfl, by decide +kernel, by decide +kernel⟩
theorem tx__law_digits : mSs (hasD pg) Cn Rn ["_law_cell", "_law_turn", "_law_sizes", "_law_number", "_law_wide", "_law_seed", "_law_found", "_law_k", "_law_size"] (defScope (topS 39)) b__law_digits (defBody (topS 39)) = true := by decide +kernel
theorem sc__law_digits : FnScope ["_law_cell", "_law_turn", "_law_sizes", "_law_number", "_law_wide", "_law_seed", "_law_found", "_law_k", "_law_size"] ["_law_cell", "_law_turn", "_law_sizes"] (defScope (topS 39)) := ⟨rfl, rfl, rfl, by decide +kernel, rfl, by decide +kernel, by decide +kernel⟩
theorem tx__law_scroll : mSs (hasD pg) Cn Rn ["_law_calls", "_law_more", "_law_inner", "_law_last", "_law_first", "_law_k", "_law_second", "_law_third"] (defScope (topS 40)) b__law_scroll (defBody (topS 40)) = true := by decide +kernel
theorem sc__law_scroll : FnScope ["_law_calls", "_law_more", "_law_inner", "_law_last", "_law_first", "_law_k", "_law_second", "_law_third"] ["_law_calls", "_law_more", "_law_inner", "_law_last"] (defScope (topS 40)) := ⟨rfl, rfl, rfl, by decide +kernel, rfl, by decide +kernel, by decide +kernel⟩
theorem tx__law_book : mSs (hasD pg) Cn Rn ["_law_calls", "_law_more", "_law_inner", "_law_last", "_law_leaf", "_law_book_here"] (defScope (topS 41)) b__law_book (defBody (topS 41)) = true := by decide +kernel
theorem sc__law_book : FnScope ["_law_calls", "_law_more", "_law_inner", "_law_last", "_law_leaf", "_law_book_here"] ["_law_calls", "_law_more", "_law_inner", "_law_last"] (defScope (topS 41)) := ⟨rfl, rfl, rfl, by decide +kernel, rfl, by decide +kernel, by decide +kernel⟩
theorem tx__law_kept : mSs (hasD pg) Cn Rn ["_law_scroll_here", "_law_book_here", "_law_kept_here", "e", "_law_some"] (defScope (topS 42)) b__law_kept (defBody (topS 42)) = true := by decide +kernel
theorem sc__law_kept : FnScope ["_law_scroll_here", "_law_book_here", "_law_kept_here", "e", "_law_some"] ["_law_scroll_here", "_law_book_here"] (defScope (topS 42)) := ⟨rfl, rfl, rfl, by decide +kernel, rfl, by decide +kernel, by decide +kernel⟩
theorem tx__law_right : mSs (hasD pg) Cn Rn ["_law_calls", "_law_more", "_law_inner", "_law_last", "_law_scroll_here", "_law_book_here", "_law_many", "_law_small", "_law_found", "_law_one"] (defScope (topS 43)) b__law_right (defBody (topS 43)) = true := by decide +kernel
theorem sc__law_right : FnScope ["_law_calls", "_law_more", "_law_inner", "_law_last", "_law_scroll_here", "_law_book_here", "_law_many", "_law_small", "_law_found", "_law_one"] ["_law_calls", "_law_more", "_law_inner", "_law_last"] (defScope (topS 43)) := ⟨rfl, rfl, rfl, by decide +kernel, rfl, by decide +kernel, by decide +kernel⟩
theorem tx__law_short_right : mSs (hasD pg) Cn Rn ["_law_scroll_here", "_law_rows", "_law_k", "_law_book_here", "_law_first"] (defScope (topS 44)) b__law_short_right (defBody (topS 44)) = true := by decide +kernel
theorem sc__law_short_right : FnScope ["_law_scroll_here", "_law_rows", "_law_k", "_law_book_here", "_law_first"] [] (defScope (topS 44)) := ⟨rfl, rfl, rfl, by decide +kernel, rfl, by decide +kernel, by decide +kernel⟩
theorem tx_law : mSs (hasD pg) Cn Rn ["_law_script", "_law_calls", "_law_more", "_law_inner", "_law_last", "_law_k", "_law_cell", "_law_d"] (defScope (topS 45)) b_law (defBody (topS 45)) = true := by decide +kernel
theorem sc_law : FnScope ["_law_script", "_law_calls", "_law_more", "_law_inner", "_law_last", "_law_k", "_law_cell", "_law_d"] ["_law_script"] (defScope (topS 45)) := ⟨rfl, rfl, rfl, by decide +kernel, rfl, by decide +kernel, by decide +kernel⟩
def spLaw (K : PySem.W.Frag) : Sp := fun vs H Q _ => ∃ (a : Addr) (ns : List Int), vs = [.ref a] ∧ SqL K H a (ns.map V.int) ∧ ns.length ≤ 63 ∧ ∀ H', Q (.bl true) H'
theorem all_mk {l : PySem.W.OpenLaw} {w : World} {K : PySem.W.Frag} {h : Heap} {mg : Str → Option Value} {fa : Addr} (X : K.In h) (G : h.Ns mainGlobals mg) (hfa : mg "law" = some (.ref fa))
    {od1 an1 : Option Addr} {sl1 : Array (Option Value)} {oc1 kV1 dc1 pm1 cd1 ct1 : Value} {f1 : Addr}
    (a1 : PySem.W.nsIn K mainGlobals "is_whole" = some (some (.ref f1)))
    (l1 : K.lookup f1 = some ⟨oc1, od1, .func (PySem.W.fnOf "is_whole" "is_whole" (defArgs (topS 1)) (defBody (topS 1)) (defScope (topS 1)) .none kV1 dc1 pm1 an1 cd1 ct1), sl1⟩)
    (c1 : PySem.W.codeIn K cd1 "is_whole" = true)
    (k1 : PySem.W.keepIn K (.ref f1) = true)
    {od2 an2 : Option Addr} {sl2 : Array (Option Value)} {oc2 kV2 dc2 pm2 cd2 ct2 : Value} {f2 : Addr}
    (a2 : PySem.W.nsIn K mainGlobals "is_within" = some (some (.ref f2)))
    (l2 : K.lookup f2 = some ⟨oc2, od2, .func (PySem.W.fnOf "is_within" "is_within" (defArgs (topS 2)) (defBody (topS 2)) (defScope (topS 2)) .none kV2 dc2 pm2 an2 cd2 ct2), sl2⟩)
    (c2 : PySem.W.codeIn K cd2 "is_within" = true)
    (k2 : PySem.W.keepIn K (.ref f2) = true)
    {od3 an3 : Option Addr} {sl3 : Array (Option Value)} {oc3 kV3 dc3 pm3 cd3 ct3 : Value} {f3 : Addr}
    (a3 : PySem.W.nsIn K mainGlobals "many_stores" = some (some (.ref f3)))
    (l3 : K.lookup f3 = some ⟨oc3, od3, .func (PySem.W.fnOf "many_stores" "many_stores" (defArgs (topS 3)) (defBody (topS 3)) (defScope (topS 3)) .none kV3 dc3 pm3 an3 cd3 ct3), sl3⟩)
    (c3 : PySem.W.codeIn K cd3 "many_stores" = true)
    (k3 : PySem.W.keepIn K (.ref f3) = true)
    {od4 an4 : Option Addr} {sl4 : Array (Option Value)} {oc4 kV4 dc4 pm4 cd4 ct4 : Value} {f4 : Addr}
    (a4 : PySem.W.nsIn K mainGlobals "first_store" = some (some (.ref f4)))
    (l4 : K.lookup f4 = some ⟨oc4, od4, .func (PySem.W.fnOf "first_store" "first_store" (defArgs (topS 4)) (defBody (topS 4)) (defScope (topS 4)) .none kV4 dc4 pm4 an4 cd4 ct4), sl4⟩)
    (c4 : PySem.W.codeIn K cd4 "first_store" = true)
    (k4 : PySem.W.keepIn K (.ref f4) = true)
    {od5 an5 : Option Addr} {sl5 : Array (Option Value)} {oc5 kV5 dc5 pm5 cd5 ct5 : Value} {f5 : Addr}
    (a5 : PySem.W.nsIn K mainGlobals "store_by" = some (some (.ref f5)))
    (l5 : K.lookup f5 = some ⟨oc5, od5, .func (PySem.W.fnOf "store_by" "store_by" (defArgs (topS 5)) (defBody (topS 5)) (defScope (topS 5)) .none kV5 dc5 pm5 an5 cd5 ct5), sl5⟩)
    (c5 : PySem.W.codeIn K cd5 "store_by" = true)
    (k5 : PySem.W.keepIn K (.ref f5) = true)
    {od6 an6 : Option Addr} {sl6 : Array (Option Value)} {oc6 kV6 dc6 pm6 cd6 ct6 : Value} {f6 : Addr}
    (a6 : PySem.W.nsIn K mainGlobals "put_into" = some (some (.ref f6)))
    (l6 : K.lookup f6 = some ⟨oc6, od6, .func (PySem.W.fnOf "put_into" "put_into" (defArgs (topS 6)) (defBody (topS 6)) (defScope (topS 6)) .none kV6 dc6 pm6 an6 cd6 ct6), sl6⟩)
    (c6 : PySem.W.codeIn K cd6 "put_into" = true)
    (k6 : PySem.W.keepIn K (.ref f6) = true)
    {od15 an15 : Option Addr} {sl15 : Array (Option Value)} {oc15 kV15 dc15 pm15 cd15 ct15 : Value} {f15 : Addr}
    (a15 : PySem.W.nsIn K mainGlobals "first_leaf" = some (some (.ref f15)))
    (l15 : K.lookup f15 = some ⟨oc15, od15, .func (PySem.W.fnOf "first_leaf" "first_leaf" (defArgs (topS 15)) (defBody (topS 15)) (defScope (topS 15)) .none kV15 dc15 pm15 an15 cd15 ct15), sl15⟩)
    (c15 : PySem.W.codeIn K cd15 "first_leaf" = true)
    (k15 : PySem.W.keepIn K (.ref f15) = true)
    {od16 an16 : Option Addr} {sl16 : Array (Option Value)} {oc16 kV16 dc16 pm16 cd16 ct16 : Value} {f16 : Addr}
    (a16 : PySem.W.nsIn K mainGlobals "end_of" = some (some (.ref f16)))
    (l16 : K.lookup f16 = some ⟨oc16, od16, .func (PySem.W.fnOf "end_of" "end_of" (defArgs (topS 16)) (defBody (topS 16)) (defScope (topS 16)) .none kV16 dc16 pm16 an16 cd16 ct16), sl16⟩)
    (c16 : PySem.W.codeIn K cd16 "end_of" = true)
    (k16 : PySem.W.keepIn K (.ref f16) = true)
    {od17 an17 : Option Addr} {sl17 : Array (Option Value)} {oc17 kV17 dc17 pm17 cd17 ct17 : Value} {f17 : Addr}
    (a17 : PySem.W.nsIn K mainGlobals "is_counted" = some (some (.ref f17)))
    (l17 : K.lookup f17 = some ⟨oc17, od17, .func (PySem.W.fnOf "is_counted" "is_counted" (defArgs (topS 17)) (defBody (topS 17)) (defScope (topS 17)) .none kV17 dc17 pm17 an17 cd17 ct17), sl17⟩)
    (c17 : PySem.W.codeIn K cd17 "is_counted" = true)
    (k17 : PySem.W.keepIn K (.ref f17) = true)
    {od18 an18 : Option Addr} {sl18 : Array (Option Value)} {oc18 kV18 dc18 pm18 cd18 ct18 : Value} {f18 : Addr}
    (a18 : PySem.W.nsIn K mainGlobals "with_store" = some (some (.ref f18)))
    (l18 : K.lookup f18 = some ⟨oc18, od18, .func (PySem.W.fnOf "with_store" "with_store" (defArgs (topS 18)) (defBody (topS 18)) (defScope (topS 18)) .none kV18 dc18 pm18 an18 cd18 ct18), sl18⟩)
    (c18 : PySem.W.codeIn K cd18 "with_store" = true)
    (k18 : PySem.W.keepIn K (.ref f18) = true)
    {od19 an19 : Option Addr} {sl19 : Array (Option Value)} {oc19 kV19 dc19 pm19 cd19 ct19 : Value} {f19 : Addr}
    (a19 : PySem.W.nsIn K mainGlobals "box_moves" = some (some (.ref f19)))
    (l19 : K.lookup f19 = some ⟨oc19, od19, .func (PySem.W.fnOf "box_moves" "box_moves" (defArgs (topS 19)) (defBody (topS 19)) (defScope (topS 19)) .none kV19 dc19 pm19 an19 cd19 ct19), sl19⟩)
    (c19 : PySem.W.codeIn K cd19 "box_moves" = true)
    (k19 : PySem.W.keepIn K (.ref f19) = true)
    {od20 an20 : Option Addr} {sl20 : Array (Option Value)} {oc20 kV20 dc20 pm20 cd20 ct20 : Value} {f20 : Addr}
    (a20 : PySem.W.nsIn K mainGlobals "on_moves" = some (some (.ref f20)))
    (l20 : K.lookup f20 = some ⟨oc20, od20, .func (PySem.W.fnOf "on_moves" "on_moves" (defArgs (topS 20)) (defBody (topS 20)) (defScope (topS 20)) .none kV20 dc20 pm20 an20 cd20 ct20), sl20⟩)
    (c20 : PySem.W.codeIn K cd20 "on_moves" = true)
    (k20 : PySem.W.keepIn K (.ref f20) = true)
    {od21 an21 : Option Addr} {sl21 : Array (Option Value)} {oc21 kV21 dc21 pm21 cd21 ct21 : Value} {f21 : Addr}
    (a21 : PySem.W.nsIn K mainGlobals "opened" = some (some (.ref f21)))
    (l21 : K.lookup f21 = some ⟨oc21, od21, .func (PySem.W.fnOf "opened" "opened" (defArgs (topS 21)) (defBody (topS 21)) (defScope (topS 21)) .none kV21 dc21 pm21 an21 cd21 ct21), sl21⟩)
    (c21 : PySem.W.codeIn K cd21 "opened" = true)
    (k21 : PySem.W.keepIn K (.ref f21) = true)
    {od22 an22 : Option Addr} {sl22 : Array (Option Value)} {oc22 kV22 dc22 pm22 cd22 ct22 : Value} {f22 : Addr}
    (a22 : PySem.W.nsIn K mainGlobals "open_moves" = some (some (.ref f22)))
    (l22 : K.lookup f22 = some ⟨oc22, od22, .func (PySem.W.fnOf "open_moves" "open_moves" (defArgs (topS 22)) (defBody (topS 22)) (defScope (topS 22)) .none kV22 dc22 pm22 an22 cd22 ct22), sl22⟩)
    (c22 : PySem.W.codeIn K cd22 "open_moves" = true)
    (k22 : PySem.W.keepIn K (.ref f22) = true)
    {od23 an23 : Option Addr} {sl23 : Array (Option Value)} {oc23 kV23 dc23 pm23 cd23 ct23 : Value} {f23 : Addr}
    (a23 : PySem.W.nsIn K mainGlobals "moves" = some (some (.ref f23)))
    (l23 : K.lookup f23 = some ⟨oc23, od23, .func (PySem.W.fnOf "moves" "moves" (defArgs (topS 23)) (defBody (topS 23)) (defScope (topS 23)) .none kV23 dc23 pm23 an23 cd23 ct23), sl23⟩)
    (c23 : PySem.W.codeIn K cd23 "moves" = true)
    (k23 : PySem.W.keepIn K (.ref f23) = true)
    {od25 an25 : Option Addr} {sl25 : Array (Option Value)} {oc25 kV25 dc25 pm25 cd25 ct25 : Value} {f25 : Addr}
    (a25 : PySem.W.nsIn K mainGlobals "are_stores" = some (some (.ref f25)))
    (l25 : K.lookup f25 = some ⟨oc25, od25, .func (PySem.W.fnOf "are_stores" "are_stores" (defArgs (topS 25)) (defBody (topS 25)) (defScope (topS 25)) .none kV25 dc25 pm25 an25 cd25 ct25), sl25⟩)
    (c25 : PySem.W.codeIn K cd25 "are_stores" = true)
    (k25 : PySem.W.keepIn K (.ref f25) = true)
    {od26 an26 : Option Addr} {sl26 : Array (Option Value)} {oc26 kV26 dc26 pm26 cd26 ct26 : Value} {f26 : Addr}
    (a26 : PySem.W.nsIn K mainGlobals "is_leaf" = some (some (.ref f26)))
    (l26 : K.lookup f26 = some ⟨oc26, od26, .func (PySem.W.fnOf "is_leaf" "is_leaf" (defArgs (topS 26)) (defBody (topS 26)) (defScope (topS 26)) .none kV26 dc26 pm26 an26 cd26 ct26), sl26⟩)
    (c26 : PySem.W.codeIn K cd26 "is_leaf" = true)
    (k26 : PySem.W.keepIn K (.ref f26) = true)
    {od29 an29 : Option Addr} {sl29 : Array (Option Value)} {oc29 kV29 dc29 pm29 cd29 ct29 : Value} {f29 : Addr}
    (a29 : PySem.W.nsIn K mainGlobals "named_in" = some (some (.ref f29)))
    (l29 : K.lookup f29 = some ⟨oc29, od29, .func (PySem.W.fnOf "named_in" "named_in" (defArgs (topS 29)) (defBody (topS 29)) (defScope (topS 29)) .none kV29 dc29 pm29 an29 cd29 ct29), sl29⟩)
    (c29 : PySem.W.codeIn K cd29 "named_in" = true)
    (k29 : PySem.W.keepIn K (.ref f29) = true)
    {od30 an30 : Option Addr} {sl30 : Array (Option Value)} {oc30 kV30 dc30 pm30 cd30 ct30 : Value} {f30 : Addr}
    (a30 : PySem.W.nsIn K mainGlobals "chosen" = some (some (.ref f30)))
    (l30 : K.lookup f30 = some ⟨oc30, od30, .func (PySem.W.fnOf "chosen" "chosen" (defArgs (topS 30)) (defBody (topS 30)) (defScope (topS 30)) .none kV30 dc30 pm30 an30 cd30 ct30), sl30⟩)
    (c30 : PySem.W.codeIn K cd30 "chosen" = true)
    (k30 : PySem.W.keepIn K (.ref f30) = true)
    {od31 an31 : Option Addr} {sl31 : Array (Option Value)} {oc31 kV31 dc31 pm31 cd31 ct31 : Value} {f31 : Addr}
    (a31 : PySem.W.nsIn K mainGlobals "walk_of" = some (some (.ref f31)))
    (l31 : K.lookup f31 = some ⟨oc31, od31, .func (PySem.W.fnOf "walk_of" "walk_of" (defArgs (topS 31)) (defBody (topS 31)) (defScope (topS 31)) .none kV31 dc31 pm31 an31 cd31 ct31), sl31⟩)
    (c31 : PySem.W.codeIn K cd31 "walk_of" = true)
    (k31 : PySem.W.keepIn K (.ref f31) = true)
    {od32 an32 : Option Addr} {sl32 : Array (Option Value)} {oc32 kV32 dc32 pm32 cd32 ct32 : Value} {f32 : Addr}
    (a32 : PySem.W.nsIn K mainGlobals "walks_of" = some (some (.ref f32)))
    (l32 : K.lookup f32 = some ⟨oc32, od32, .func (PySem.W.fnOf "walks_of" "walks_of" (defArgs (topS 32)) (defBody (topS 32)) (defScope (topS 32)) .none kV32 dc32 pm32 an32 cd32 ct32), sl32⟩)
    (c32 : PySem.W.codeIn K cd32 "walks_of" = true)
    (k32 : PySem.W.keepIn K (.ref f32) = true)
    {od33 an33 : Option Addr} {sl33 : Array (Option Value)} {oc33 kV33 dc33 pm33 cd33 ct33 : Value} {f33 : Addr}
    (a33 : PySem.W.nsIn K mainGlobals "is_way" = some (some (.ref f33)))
    (l33 : K.lookup f33 = some ⟨oc33, od33, .func (PySem.W.fnOf "is_way" "is_way" (defArgs (topS 33)) (defBody (topS 33)) (defScope (topS 33)) .none kV33 dc33 pm33 an33 cd33 ct33), sl33⟩)
    (c33 : PySem.W.codeIn K cd33 "is_way" = true)
    (k33 : PySem.W.keepIn K (.ref f33) = true)
    {od34 an34 : Option Addr} {sl34 : Array (Option Value)} {oc34 kV34 dc34 pm34 cd34 ct34 : Value} {f34 : Addr}
    (a34 : PySem.W.nsIn K mainGlobals "is_book" = some (some (.ref f34)))
    (l34 : K.lookup f34 = some ⟨oc34, od34, .func (PySem.W.fnOf "is_book" "is_book" (defArgs (topS 34)) (defBody (topS 34)) (defScope (topS 34)) .none kV34 dc34 pm34 an34 cd34 ct34), sl34⟩)
    (c34 : PySem.W.codeIn K cd34 "is_book" = true)
    (k34 : PySem.W.keepIn K (.ref f34) = true)
    {od35 an35 : Option Addr} {sl35 : Array (Option Value)} {oc35 kV35 dc35 pm35 cd35 ct35 : Value} {f35 : Addr}
    (a35 : PySem.W.nsIn K mainGlobals "book_tells" = some (some (.ref f35)))
    (l35 : K.lookup f35 = some ⟨oc35, od35, .func (PySem.W.fnOf "book_tells" "book_tells" (defArgs (topS 35)) (defBody (topS 35)) (defScope (topS 35)) .none kV35 dc35 pm35 an35 cd35 ct35), sl35⟩)
    (c35 : PySem.W.codeIn K cd35 "book_tells" = true)
    (k35 : PySem.W.keepIn K (.ref f35) = true)
    {od36 an36 : Option Addr} {sl36 : Array (Option Value)} {oc36 kV36 dc36 pm36 cd36 ct36 : Value} {f36 : Addr}
    (a36 : PySem.W.nsIn K mainGlobals "unrolled" = some (some (.ref f36)))
    (l36 : K.lookup f36 = some ⟨oc36, od36, .func (PySem.W.fnOf "unrolled" "unrolled" (defArgs (topS 36)) (defBody (topS 36)) (defScope (topS 36)) .none kV36 dc36 pm36 an36 cd36 ct36), sl36⟩)
    (c36 : PySem.W.codeIn K cd36 "unrolled" = true)
    (k36 : PySem.W.keepIn K (.ref f36) = true)
    {od39 an39 : Option Addr} {sl39 : Array (Option Value)} {oc39 kV39 dc39 pm39 cd39 ct39 : Value} {f39 : Addr}
    (a39 : PySem.W.nsIn K mainGlobals "_law_digits" = some (some (.ref f39)))
    (l39 : K.lookup f39 = some ⟨oc39, od39, .func (PySem.W.fnOf "_law_digits" "_law_digits" (defArgs (topS 39)) (defBody (topS 39)) (defScope (topS 39)) .none kV39 dc39 pm39 an39 cd39 ct39), sl39⟩)
    (c39 : PySem.W.codeIn K cd39 "_law_digits" = true)
    (k39 : PySem.W.keepIn K (.ref f39) = true)
    {od40 an40 : Option Addr} {sl40 : Array (Option Value)} {oc40 kV40 dc40 pm40 cd40 ct40 : Value} {f40 : Addr}
    (a40 : PySem.W.nsIn K mainGlobals "_law_scroll" = some (some (.ref f40)))
    (l40 : K.lookup f40 = some ⟨oc40, od40, .func (PySem.W.fnOf "_law_scroll" "_law_scroll" (defArgs (topS 40)) (defBody (topS 40)) (defScope (topS 40)) .none kV40 dc40 pm40 an40 cd40 ct40), sl40⟩)
    (c40 : PySem.W.codeIn K cd40 "_law_scroll" = true)
    (k40 : PySem.W.keepIn K (.ref f40) = true)
    {od41 an41 : Option Addr} {sl41 : Array (Option Value)} {oc41 kV41 dc41 pm41 cd41 ct41 : Value} {f41 : Addr}
    (a41 : PySem.W.nsIn K mainGlobals "_law_book" = some (some (.ref f41)))
    (l41 : K.lookup f41 = some ⟨oc41, od41, .func (PySem.W.fnOf "_law_book" "_law_book" (defArgs (topS 41)) (defBody (topS 41)) (defScope (topS 41)) .none kV41 dc41 pm41 an41 cd41 ct41), sl41⟩)
    (c41 : PySem.W.codeIn K cd41 "_law_book" = true)
    (k41 : PySem.W.keepIn K (.ref f41) = true)
    {od42 an42 : Option Addr} {sl42 : Array (Option Value)} {oc42 kV42 dc42 pm42 cd42 ct42 : Value} {f42 : Addr}
    (a42 : PySem.W.nsIn K mainGlobals "_law_kept" = some (some (.ref f42)))
    (l42 : K.lookup f42 = some ⟨oc42, od42, .func (PySem.W.fnOf "_law_kept" "_law_kept" (defArgs (topS 42)) (defBody (topS 42)) (defScope (topS 42)) .none kV42 dc42 pm42 an42 cd42 ct42), sl42⟩)
    (c42 : PySem.W.codeIn K cd42 "_law_kept" = true)
    (k42 : PySem.W.keepIn K (.ref f42) = true)
    {od43 an43 : Option Addr} {sl43 : Array (Option Value)} {oc43 kV43 dc43 pm43 cd43 ct43 : Value} {f43 : Addr}
    (a43 : PySem.W.nsIn K mainGlobals "_law_right" = some (some (.ref f43)))
    (l43 : K.lookup f43 = some ⟨oc43, od43, .func (PySem.W.fnOf "_law_right" "_law_right" (defArgs (topS 43)) (defBody (topS 43)) (defScope (topS 43)) .none kV43 dc43 pm43 an43 cd43 ct43), sl43⟩)
    (c43 : PySem.W.codeIn K cd43 "_law_right" = true)
    (k43 : PySem.W.keepIn K (.ref f43) = true)
    {od44 an44 : Option Addr} {sl44 : Array (Option Value)} {oc44 kV44 dc44 pm44 cd44 ct44 : Value} {f44 : Addr}
    (a44 : PySem.W.nsIn K mainGlobals "_law_short_right" = some (some (.ref f44)))
    (l44 : K.lookup f44 = some ⟨oc44, od44, .func (PySem.W.fnOf "_law_short_right" "_law_short_right" (defArgs (topS 44)) (defBody (topS 44)) (defScope (topS 44)) .none kV44 dc44 pm44 an44 cd44 ct44), sl44⟩)
    (c44 : PySem.W.codeIn K cd44 "_law_short_right" = true)
    (k44 : PySem.W.keepIn K (.ref f44) = true)
    {od45 an45 : Option Addr} {sl45 : Array (Option Value)} {oc45 kV45 dc45 pm45 cd45 ct45 : Value} {f45 : Addr}
    (a45 : PySem.W.nsIn K mainGlobals "law" = some (some (.ref f45)))
    (l45 : K.lookup f45 = some ⟨oc45, od45, .func (PySem.W.fnOf "law" "law" (defArgs (topS 45)) (defBody (topS 45)) (defScope (topS 45)) .none kV45 dc45 pm45 an45 cd45 ct45), sl45⟩)
    (c45 : PySem.W.codeIn K cd45 "law" = true)
    (k45 : PySem.W.keepIn K (.ref f45) = true)
    (z0 : PySem.W.nsIn K mainGlobals "len" = some none)
    (z1 : PySem.W.nsIn K mainGlobals "abs" = some none)
    (z2 : PySem.W.nsIn K mainGlobals "int" = some none)
    (z3 : PySem.W.nsIn K mainGlobals "tuple" = some none)
    (z4 : PySem.W.nsIn K mainGlobals "list" = some none)
    (z5 : PySem.W.nsIn K mainGlobals "all" = some none)
    (z6 : PySem.W.nsIn K mainGlobals "max" = some none)
    (z7 : PySem.W.nsIn K mainGlobals "min" = some none)
    (z8 : PySem.W.nsIn K mainGlobals "range" = some none)
    (z9 : PySem.W.nsIn K mainGlobals "enumerate" = some none)
    (z10 : PySem.W.nsIn K mainGlobals "zip" = some none)
    (z11 : PySem.W.nsIn K mainGlobals "isinstance" = some none)
    (z12 : PySem.W.nsIn K mainGlobals "bool" = some none)
    (z13 : PySem.W.nsIn K mainGlobals "str" = some none)
    (z14 : PySem.W.nsIn K mainGlobals "dict" = some none)
    {CHandError : Addr}
    (aCHandError : PySem.W.nsIn K mainGlobals "HandError" = some (some (.ref CHandError)))
    (iCHandError : PySem.W.isClsIn K CHandError = true)
    (tCHandError : PySem.W.typeIn K (.ref CHandError) = some (.type "type"))
    (bCHandError : PySem.W.subIn K (.ref CHandError) (.type "BaseException") = some true)
    (nCHandError : PySem.W.subIn K (.type "NoneType") (.ref CHandError) = some false)
    {CTooMany : Addr}
    (aCTooMany : PySem.W.nsIn K mainGlobals "TooMany" = some (some (.ref CTooMany)))
    (iCTooMany : PySem.W.isClsIn K CTooMany = true)
    (tCTooMany : PySem.W.typeIn K (.ref CTooMany) = some (.type "type"))
    (bCTooMany : PySem.W.subIn K (.ref CTooMany) (.type "BaseException") = some true)
    (nCTooMany : PySem.W.subIn K (.type "NoneType") (.ref CTooMany) = some false)
    {CNoRun : Addr}
    (aCNoRun : PySem.W.nsIn K mainGlobals "NoRun" = some (some (.ref CNoRun)))
    (iCNoRun : PySem.W.isClsIn K CNoRun = true)
    (tCNoRun : PySem.W.typeIn K (.ref CNoRun) = some (.type "type"))
    (bCNoRun : PySem.W.subIn K (.ref CNoRun) (.type "BaseException") = some true)
    (nCNoRun : PySem.W.subIn K (.type "NoneType") (.ref CNoRun) = some false)
    {CNoStep : Addr}
    (aCNoStep : PySem.W.nsIn K mainGlobals "NoStep" = some (some (.ref CNoStep)))
    (iCNoStep : PySem.W.isClsIn K CNoStep = true)
    (tCNoStep : PySem.W.typeIn K (.ref CNoStep) = some (.type "type"))
    (bCNoStep : PySem.W.subIn K (.ref CNoStep) (.type "BaseException") = some true)
    (nCNoStep : PySem.W.subIn K (.type "NoneType") (.ref CNoStep) = some false)
    {CTooLong : Addr}
    (aCTooLong : PySem.W.nsIn K mainGlobals "TooLong" = some (some (.ref CTooLong)))
    (iCTooLong : PySem.W.isClsIn K CTooLong = true)
    (tCTooLong : PySem.W.typeIn K (.ref CTooLong) = some (.type "type"))
    (bCTooLong : PySem.W.subIn K (.ref CTooLong) (.type "BaseException") = some true)
    (nCTooLong : PySem.W.subIn K (.type "NoneType") (.ref CTooLong) = some false)
    (aBValueError : PySem.W.nsIn K mainGlobals "ValueError" = some none)
    (nBValueError : PySem.W.subIn K (.type "NoneType") (.type "ValueError") = some false)
    (bBValueError : PySem.W.subIn K (.type "ValueError") (.type "BaseException") = some true)
    (sTooLong_HandError : PySem.W.subIn K (.ref CTooLong) (.ref CHandError) = some true)
    (sTooLong_TooMany : PySem.W.subIn K (.ref CTooLong) (.ref CTooMany) = some false)
    (sTooLong_NoRun : PySem.W.subIn K (.ref CTooLong) (.ref CNoRun) = some false)
    (sTooLong_NoStep : PySem.W.subIn K (.ref CTooLong) (.ref CNoStep) = some false)
    (sTooLong_ValueError : PySem.W.subIn K (.ref CTooLong) (.type "ValueError") = some true)
    (sTooLong_TooLong : PySem.W.subIn K (.ref CTooLong) (.ref CTooLong) = some true)
    (x1TooLong : PySem.W.excIn K CTooLong [.type "ValueError", .type "Exception", .type "BaseException", .type "object"] "ValueError.__new__" = true)
    (x2TooLong : PySem.W.keepIn K (.ref CTooLong) = true)
    (e1TooLong : PySem.W.findIn K (.ref CTooLong) "__getattribute__" = some (some (.builtin "BaseException.__getattribute__")))
    (e2TooLong : PySem.W.findIn K (.ref CTooLong) "__getattr__" = some none)
    (e4TooLong : PySem.W.hasDictIn K CTooLong = true)
    (e5TooLong : PySem.W.findIn K (.ref CTooLong) "__class__" = some (some (.builtin "object.__class__")))
    (e6TooLong : PySem.W.specialIn K (.builtin "object.__class__") "__get__" = some (some (.builtin "getset_descriptor.__get__")))
    (e7TooLong : PySem.W.takesIn K (.builtin "object.__class__") = some true)
    (e8TooLong : PySem.W.mroIn K CTooLong (.type "object") = some true)
    {gACOUNTED : Addr} {gnCOUNTED : Nat} {gdCOUNTED : Option Addr} {gsCOUNTED : Array (Option Value)} {gtCOUNTED0 gtCOUNTED1 gtCOUNTED2 gtCOUNTED3 gtCOUNTED4 : Tok}
    (gCOUNTED : PySem.W.nsIn K mainGlobals "COUNTED" = some (some (.ref gACOUNTED)))
    (hCOUNTED : K.lookup gACOUNTED = some ⟨.type "tuple", gdCOUNTED, .seq #[.str "put" gtCOUNTED0, .str "swap" gtCOUNTED1, .str "ask" gtCOUNTED2, .str "any" gtCOUNTED3, .str "call" gtCOUNTED4] gnCOUNTED, gsCOUNTED⟩)
    {gtMOST_CHOICES : Tok}
    (gMOST_CHOICES : PySem.W.nsIn K mainGlobals "MOST_CHOICES" = some (some (.int 900 gtMOST_CHOICES))) :
    ∃ fd : FuncData, (∀ (s : Shared) (v : Value), BindsTo s fd ⟨[v], []⟩ [("_law_script", v)]) ∧ ∀ base : Heap, K.In base → base.Ns mainGlobals mg → FnOk l.prog w K mg base (L2.CX l.prog w) 20 fa fd ["_law_script"] (spLaw K) := by
  have e := hfa.symm.trans (PySem.W.mg_of X G a45)
  have e2 : f45 = fa := by cases e; rfl
  subst e2
  have B : LnkB ⟨K, mg⟩ pg Cn Rn := by
    refine ⟨fun x d h => ?_, fun x h => ?_, fun c h => ?_, fun c d b h => ?_, fun c h => ?_⟩
    · have hm := mem_look h
      simp only [globL, List.mem_cons, List.not_mem_nil, or_false, Prod.mk.injEq] at hm
      rcases hm with ⟨rfl, rfl⟩ | ⟨rfl, rfl⟩
      · exact ⟨.ref gACOUNTED, _, PySem.W.mg_of X G gCOUNTED, rfl, .tup (xs := [.str "put", .str "swap", .str "ask", .str "any", .str "call"]) (.inr ⟨_, _, _, hCOUNTED, rfl, rfl, (by show 5 ≤ sizeLine; decide), .cons ⟨_, rfl⟩ (.cons ⟨_, rfl⟩ (.cons ⟨_, rfl⟩ (.cons ⟨_, rfl⟩ (.cons ⟨_, rfl⟩ (.nil)))))⟩) (.cons (.str _) (.cons (.str _) (.cons (.str _) (.cons (.str _) (.cons (.str _) (.nil))))))⟩
      · exact ⟨.int 900, _, PySem.W.mg_of X G gMOST_CHOICES, ⟨_, rfl⟩, .int _⟩
    · simp only [List.mem_cons, List.not_mem_nil, or_false] at h
      rcases h with rfl | rfl | rfl | rfl | rfl | rfl | rfl | rfl | rfl | rfl | rfl | rfl | rfl | rfl | rfl
      · exact PySem.W.mg_none_of X G z0
      · exact PySem.W.mg_none_of X G z1
      · exact PySem.W.mg_none_of X G z2
      · exact PySem.W.mg_none_of X G z3
      · exact PySem.W.mg_none_of X G z4
      · exact PySem.W.mg_none_of X G z5
      · exact PySem.W.mg_none_of X G z6
      · exact PySem.W.mg_none_of X G z7
      · exact PySem.W.mg_none_of X G z8
      · exact PySem.W.mg_none_of X G z9
      · exact PySem.W.mg_none_of X G z10
      · exact PySem.W.mg_none_of X G z11
      · exact PySem.W.mg_none_of X G z12
      · exact PySem.W.mg_none_of X G z13
      · exact PySem.W.mg_none_of X G z14
    · have hm : c ∈ clsL := of_decide_eq_true h
      simp only [clsL, List.mem_cons, List.not_mem_nil, or_false] at hm
      rcases hm with rfl | rfl | rfl | rfl | rfl | rfl
      · exact ⟨.ref CHandError, .ref CHandError, .inl ⟨CHandError, rfl, rfl, PySem.W.mg_of X G aCHandError⟩, kit_own iCHandError tCHandError nCHandError (fun z => nomatch z)⟩
      · exact ⟨.ref CTooMany, .ref CTooMany, .inl ⟨CTooMany, rfl, rfl, PySem.W.mg_of X G aCTooMany⟩, kit_own iCTooMany tCTooMany nCTooMany (fun z => nomatch z)⟩
      · exact ⟨.ref CNoRun, .ref CNoRun, .inl ⟨CNoRun, rfl, rfl, PySem.W.mg_of X G aCNoRun⟩, kit_own iCNoRun tCNoRun nCNoRun (fun z => nomatch z)⟩
      · exact ⟨.ref CNoStep, .ref CNoStep, .inl ⟨CNoStep, rfl, rfl, PySem.W.mg_of X G aCNoStep⟩, kit_own iCNoStep tCNoStep nCNoStep (fun z => nomatch z)⟩
      · exact ⟨.ty "ValueError", .type "ValueError", .inr ⟨"ValueError", rfl, rfl, PySem.W.mg_none_of X G aBValueError, by decide +kernel⟩, kit_blt (by decide +kernel) nBValueError (by decide)⟩
      · exact ⟨.ref CTooLong, .ref CTooLong, .inl ⟨CTooLong, rfl, rfl, PySem.W.mg_of X G aCTooLong⟩, kit_own iCTooLong tCTooLong nCTooLong (fun z => nomatch z)⟩
    · have hm := mem_look h
      simp only [subL, List.mem_cons, List.not_mem_nil, or_false, Prod.mk.injEq] at hm
      rcases hm with ⟨⟨rfl, rfl⟩, rfl⟩ | ⟨⟨rfl, rfl⟩, rfl⟩ | ⟨⟨rfl, rfl⟩, rfl⟩ | ⟨⟨rfl, rfl⟩, rfl⟩ | ⟨⟨rfl, rfl⟩, rfl⟩ | ⟨⟨rfl, rfl⟩, rfl⟩
      · exact ⟨CTooLong, .ref CHandError, .ref CHandError, PySem.W.mg_of X G aCTooLong, .inl ⟨CHandError, rfl, rfl, PySem.W.mg_of X G aCHandError⟩, exm_own bCHandError iCHandError tCHandError sTooLong_HandError, kit_own' iCHandError tCHandError sTooLong_HandError (fun _ => rfl), ⟨e1TooLong, e2TooLong, bCTooLong, e4TooLong, e5TooLong, e6TooLong, e7TooLong, e8TooLong⟩⟩
      · exact ⟨CTooLong, .ref CTooMany, .ref CTooMany, PySem.W.mg_of X G aCTooLong, .inl ⟨CTooMany, rfl, rfl, PySem.W.mg_of X G aCTooMany⟩, exm_own bCTooMany iCTooMany tCTooMany sTooLong_TooMany, kit_own' iCTooMany tCTooMany sTooLong_TooMany (ne_sub sTooLong_TooLong sTooLong_TooMany), ⟨e1TooLong, e2TooLong, bCTooLong, e4TooLong, e5TooLong, e6TooLong, e7TooLong, e8TooLong⟩⟩
      · exact ⟨CTooLong, .ref CNoRun, .ref CNoRun, PySem.W.mg_of X G aCTooLong, .inl ⟨CNoRun, rfl, rfl, PySem.W.mg_of X G aCNoRun⟩, exm_own bCNoRun iCNoRun tCNoRun sTooLong_NoRun, kit_own' iCNoRun tCNoRun sTooLong_NoRun (ne_sub sTooLong_TooLong sTooLong_NoRun), ⟨e1TooLong, e2TooLong, bCTooLong, e4TooLong, e5TooLong, e6TooLong, e7TooLong, e8TooLong⟩⟩
      · exact ⟨CTooLong, .ref CNoStep, .ref CNoStep, PySem.W.mg_of X G aCTooLong, .inl ⟨CNoStep, rfl, rfl, PySem.W.mg_of X G aCNoStep⟩, exm_own bCNoStep iCNoStep tCNoStep sTooLong_NoStep, kit_own' iCNoStep tCNoStep sTooLong_NoStep (ne_sub sTooLong_TooLong sTooLong_NoStep), ⟨e1TooLong, e2TooLong, bCTooLong, e4TooLong, e5TooLong, e6TooLong, e7TooLong, e8TooLong⟩⟩
      · exact ⟨CTooLong, .ty "ValueError", .type "ValueError", PySem.W.mg_of X G aCTooLong, .inr ⟨"ValueError", rfl, rfl, PySem.W.mg_none_of X G aBValueError, by decide +kernel⟩, exm_blt bBValueError (by decide +kernel) sTooLong_ValueError, kit_blt (by decide +kernel) sTooLong_ValueError (fun z => nomatch z), ⟨e1TooLong, e2TooLong, bCTooLong, e4TooLong, e5TooLong, e6TooLong, e7TooLong, e8TooLong⟩⟩
      · exact ⟨CTooLong, .ref CTooLong, .ref CTooLong, PySem.W.mg_of X G aCTooLong, .inl ⟨CTooLong, rfl, rfl, PySem.W.mg_of X G aCTooLong⟩, exm_own bCTooLong iCTooLong tCTooLong sTooLong_TooLong, kit_own' iCTooLong tCTooLong sTooLong_TooLong (fun _ => rfl), ⟨e1TooLong, e2TooLong, bCTooLong, e4TooLong, e5TooLong, e6TooLong, e7TooLong, e8TooLong⟩⟩
    · have hm : c ∈ rsL := of_decide_eq_true h
      simp only [rsL, List.mem_cons, List.not_mem_nil, or_false] at hm
      rcases hm with rfl
      · exact ⟨CTooLong, "ValueError", "ValueError.__new__", "ValueError.__init__", _, PySem.F.excBase_ValueError, x1TooLong, PySem.W.mg_of X G aCTooLong, x2TooLong, bCTooLong, tCTooLong⟩
  refine ⟨PySem.W.fnOf "law" "law" (defArgs (topS 45)) (defBody (topS 45)) (defScope (topS 45)) .none kV45 dc45 pm45 an45 cd45 ct45, fun s v => .of_eq rfl, fun base _ _ => ?_⟩
  have F1 : FnT l.prog w base ⟨K, mg⟩ pg Cn Rn "is_whole" d_is_whole f1 _ ["thing"] ["thing"] "is_whole" (topS 1) := ⟨PySem.W.mg_of X G a1, k1, (fun_mk l1 c1 k1).binds (ps := ["thing"]) (fun _ _ _ _ _ _ us hl => match us, hl with | [_], _ => rfl), rfl, rfl, by decide, fun_mk l1 c1 k1, sc_is_whole, tx_is_whole⟩
  have F2 : FnT l.prog w base ⟨K, mg⟩ pg Cn Rn "is_within" d_is_within f2 _ ["thing", "low", "high"] ["thing", "low", "high"] "is_within" (topS 2) := ⟨PySem.W.mg_of X G a2, k2, (fun_mk l2 c2 k2).binds (ps := ["thing", "low", "high"]) (fun _ _ _ _ _ _ us hl => match us, hl with | [_, _, _], _ => rfl), rfl, rfl, by decide, fun_mk l2 c2 k2, sc_is_within, tx_is_within⟩
  have F3 : FnT l.prog w base ⟨K, mg⟩ pg Cn Rn "many_stores" d_many_stores f3 _ ["boxes"] ["boxes", "many", "name", "worths", "first"] "many_stores" (topS 3) := ⟨PySem.W.mg_of X G a3, k3, (fun_mk l3 c3 k3).binds (ps := ["boxes"]) (fun _ _ _ _ _ _ us hl => match us, hl with | [_], _ => rfl), rfl, rfl, by decide, fun_mk l3 c3 k3, sc_many_stores, tx_many_stores⟩
  have F4 : FnT l.prog w base ⟨K, mg⟩ pg Cn Rn "first_store" d_first_store f4 _ ["boxes"] ["boxes", "name", "worths", "first"] "first_store" (topS 4) := ⟨PySem.W.mg_of X G a4, k4, (fun_mk l4 c4 k4).binds (ps := ["boxes"]) (fun _ _ _ _ _ _ us hl => match us, hl with | [_], _ => rfl), rfl, rfl, by decide, fun_mk l4 c4 k4, sc_first_store, tx_first_store⟩
  have F5 : FnT l.prog w base ⟨K, mg⟩ pg Cn Rn "store_by" d_store_by f5 _ ["boxes", "number"] ["boxes", "number", "found", "name", "worths", "first"] "store_by" (topS 5) := ⟨PySem.W.mg_of X G a5, k5, (fun_mk l5 c5 k5).binds (ps := ["boxes", "number"]) (fun _ _ _ _ _ _ us hl => match us, hl with | [_, _], _ => rfl), rfl, rfl, by decide, fun_mk l5 c5 k5, sc_store_by, tx_store_by⟩
  have F6 : FnT l.prog w base ⟨K, mg⟩ pg Cn Rn "put_into" d_put_into f6 _ ["store", "box", "worth"] ["store", "box", "worth"] "put_into" (topS 6) := ⟨PySem.W.mg_of X G a6, k6, (fun_mk l6 c6 k6).binds (ps := ["store", "box", "worth"]) (fun _ _ _ _ _ _ us hl => match us, hl with | [_, _, _], _ => rfl), rfl, rfl, by decide, fun_mk l6 c6 k6, sc_put_into, tx_put_into⟩
  have F15 : FnT l.prog w base ⟨K, mg⟩ pg Cn Rn "first_leaf" d_first_leaf f15 _ ["scroll"] ["scroll", "boxes", "rounds", "procs", "stores"] "first_leaf" (topS 15) := ⟨PySem.W.mg_of X G a15, k15, (fun_mk l15 c15 k15).binds (ps := ["scroll"]) (fun _ _ _ _ _ _ us hl => match us, hl with | [_], _ => rfl), rfl, rfl, by decide, fun_mk l15 c15 k15, sc_first_leaf, tx_first_leaf⟩
  have F16 : FnT l.prog w base ⟨K, mg⟩ pg Cn Rn "end_of" d_end_of f16 _ ["scroll", "proc"] ["scroll", "proc"] "end_of" (topS 16) := ⟨PySem.W.mg_of X G a16, k16, (fun_mk l16 c16 k16).binds (ps := ["scroll", "proc"]) (fun _ _ _ _ _ _ us hl => match us, hl with | [_, _], _ => rfl), rfl, rfl, by decide, fun_mk l16 c16 k16, sc_end_of, tx_end_of⟩
  have F17 : FnT l.prog w base ⟨K, mg⟩ pg Cn Rn "is_counted" d_is_counted f17 _ ["scroll", "proc", "place"] ["scroll", "proc", "place"] "is_counted" (topS 17) := ⟨PySem.W.mg_of X G a17, k17, (fun_mk l17 c17 k17).binds (ps := ["scroll", "proc", "place"]) (fun _ _ _ _ _ _ us hl => match us, hl with | [_, _, _], _ => rfl), rfl, rfl, by decide, fun_mk l17 c17 k17, sc_is_counted, tx_is_counted⟩
  have F18 : FnT l.prog w base ⟨K, mg⟩ pg Cn Rn "with_store" d_with_store f18 _ ["leaf", "store"] ["leaf", "store", "page", "found", "pages", "margins"] "with_store" (topS 18) := ⟨PySem.W.mg_of X G a18, k18, (fun_mk l18 c18 k18).binds (ps := ["leaf", "store"]) (fun _ _ _ _ _ _ us hl => match us, hl with | [_, _], _ => rfl), rfl, rfl, by decide, fun_mk l18 c18 k18, sc_with_store, tx_with_store⟩
  have F19 : FnT l.prog w base ⟨K, mg⟩ pg Cn Rn "box_moves" d_box_moves f19 _ ["row", "leaf", "rounds"] ["row", "leaf", "rounds", "store", "holds"] "box_moves" (topS 19) := ⟨PySem.W.mg_of X G a19, k19, (fun_mk l19 c19 k19).binds (ps := ["row", "leaf", "rounds"]) (fun _ _ _ _ _ _ us hl => match us, hl with | [_, _, _], _ => rfl), rfl, rfl, by decide, fun_mk l19 c19 k19, sc_box_moves, tx_box_moves⟩
  have F20 : FnT l.prog w base ⟨K, mg⟩ pg Cn Rn "on_moves" d_on_moves f20 _ ["row", "leaf", "rounds", "here", "end"] ["row", "leaf", "rounds", "here", "end", "page", "found", "pages", "margins", "told"] "on_moves" (topS 20) := ⟨PySem.W.mg_of X G a20, k20, (fun_mk l20 c20 k20).binds (ps := ["row", "leaf", "rounds", "here", "end"]) (fun _ _ _ _ _ _ us hl => match us, hl with | [_, _, _, _, _], _ => rfl), rfl, rfl, by decide, fun_mk l20 c20 k20, sc_on_moves, tx_on_moves⟩
  have F21 : FnT l.prog w base ⟨K, mg⟩ pg Cn Rn "opened" d_opened f21 _ ["scroll", "leaf", "choice"] ["scroll", "leaf", "choice", "boxes", "rounds", "procs", "page", "found", "pages", "margins", "stores", "number"] "opened" (topS 21) := ⟨PySem.W.mg_of X G a21, k21, (fun_mk l21 c21 k21).binds (ps := ["scroll", "leaf", "choice"]) (fun _ _ _ _ _ _ us hl => match us, hl with | [_, _, _], _ => rfl), rfl, rfl, by decide, fun_mk l21 c21 k21, sc_opened, tx_opened⟩
  have F22 : FnT l.prog w base ⟨K, mg⟩ pg Cn Rn "open_moves" d_open_moves f22 _ ["scroll", "row", "leaf"] ["scroll", "row", "leaf", "many", "number", "choice"] "open_moves" (topS 22) := ⟨PySem.W.mg_of X G a22, k22, (fun_mk l22 c22 k22).binds (ps := ["scroll", "row", "leaf"]) (fun _ _ _ _ _ _ us hl => match us, hl with | [_, _, _], _ => rfl), rfl, rfl, by decide, fun_mk l22 c22 k22, sc_open_moves, tx_open_moves⟩
  have F23 : FnT l.prog w base ⟨K, mg⟩ pg Cn Rn "moves" d_moves f23 _ ["scroll", "proc", "place", "leaf"] ["scroll", "proc", "place", "leaf", "row", "page", "found", "pages", "margins", "choice", "to"] "moves" (topS 23) := ⟨PySem.W.mg_of X G a23, k23, (fun_mk l23 c23 k23).binds (ps := ["scroll", "proc", "place", "leaf"]) (fun _ _ _ _ _ _ us hl => match us, hl with | [_, _, _, _], _ => rfl), rfl, rfl, by decide, fun_mk l23 c23 k23, sc_moves, tx_moves⟩
  have F25 : FnT l.prog w base ⟨K, mg⟩ pg Cn Rn "are_stores" d_are_stores f25 _ ["thing", "boxes", "many"] ["thing", "boxes", "many", "store", "holds", "box"] "are_stores" (topS 25) := ⟨PySem.W.mg_of X G a25, k25, (fun_mk l25 c25 k25).binds (ps := ["thing", "boxes", "many"]) (fun _ _ _ _ _ _ us hl => match us, hl with | [_, _, _], _ => rfl), rfl, rfl, by decide, fun_mk l25 c25 k25, sc_are_stores, tx_are_stores⟩
  have F26 : FnT l.prog w base ⟨K, mg⟩ pg Cn Rn "is_leaf" d_is_leaf f26 _ ["scroll", "thing"] ["scroll", "thing", "boxes", "rounds", "procs"] "is_leaf" (topS 26) := ⟨PySem.W.mg_of X G a26, k26, (fun_mk l26 c26 k26).binds (ps := ["scroll", "thing"]) (fun _ _ _ _ _ _ us hl => match us, hl with | [_, _], _ => rfl), rfl, rfl, by decide, fun_mk l26 c26 k26, sc_is_leaf, tx_is_leaf⟩
  have F29 : FnT l.prog w base ⟨K, mg⟩ pg Cn Rn "named_in" d_named_in f29 _ ["deed", "book", "number", "key"] ["deed", "book", "number", "key"] "named_in" (topS 29) := ⟨PySem.W.mg_of X G a29, k29, (fun_mk l29 c29 k29).binds (ps := ["deed", "book", "number", "key"]) (fun _ _ _ _ _ _ us hl => match us, hl with | [_, _, _, _], _ => rfl), rfl, rfl, by decide, fun_mk l29 c29 k29, sc_named_in, tx_named_in⟩
  have F30 : FnT l.prog w base ⟨K, mg⟩ pg Cn Rn "chosen" d_chosen f30 _ ["scroll", "proc", "place", "leaf", "deed"] ["scroll", "proc", "place", "leaf", "deed", "choice", "to", "later"] "chosen" (topS 30) := ⟨PySem.W.mg_of X G a30, k30, (fun_mk l30 c30 k30).binds (ps := ["scroll", "proc", "place", "leaf", "deed"]) (fun _ _ _ _ _ _ us hl => match us, hl with | [_, _, _, _, _], _ => rfl), rfl, rfl, by decide, fun_mk l30 c30 k30, sc_chosen, tx_chosen⟩
  have F31 : FnT l.prog w base ⟨K, mg⟩ pg Cn Rn "walk_of" d_walk_of f31 _ ["scroll", "book", "number", "walks"] ["scroll", "book", "number", "walks", "proc", "leaf", "deeds", "place", "counted", "many", "deed", "row", "behind", "named"] "walk_of" (topS 31) := ⟨PySem.W.mg_of X G a31, k31, (fun_mk l31 c31 k31).binds (ps := ["scroll", "book", "number", "walks"]) (fun _ _ _ _ _ _ us hl => match us, hl with | [_, _, _, _], _ => rfl), rfl, rfl, by decide, fun_mk l31 c31 k31, sc_walk_of, tx_walk_of⟩
  have F32 : FnT l.prog w base ⟨K, mg⟩ pg Cn Rn "walks_of" d_walks_of f32 _ ["scroll", "book"] ["scroll", "book", "found", "number", "walk"] "walks_of" (topS 32) := ⟨PySem.W.mg_of X G a32, k32, (fun_mk l32 c32 k32).binds (ps := ["scroll", "book"]) (fun _ _ _ _ _ _ us hl => match us, hl with | [_, _], _ => rfl), rfl, rfl, by decide, fun_mk l32 c32 k32, sc_walks_of, tx_walks_of⟩
  have F33 : FnT l.prog w base ⟨K, mg⟩ pg Cn Rn "is_way" d_is_way f33 _ ["scroll", "thing"] ["scroll", "thing"] "is_way" (topS 33) := ⟨PySem.W.mg_of X G a33, k33, (fun_mk l33 c33 k33).binds (ps := ["scroll", "thing"]) (fun _ _ _ _ _ _ us hl => match us, hl with | [_, _], _ => rfl), rfl, rfl, by decide, fun_mk l33 c33 k33, sc_is_way, tx_is_way⟩
  have F34 : FnT l.prog w base ⟨K, mg⟩ pg Cn Rn "is_book" d_is_book f34 _ ["scroll", "thing"] ["scroll", "thing", "way"] "is_book" (topS 34) := ⟨PySem.W.mg_of X G a34, k34, (fun_mk l34 c34 k34).binds (ps := ["scroll", "thing"]) (fun _ _ _ _ _ _ us hl => match us, hl with | [_, _], _ => rfl), rfl, rfl, by decide, fun_mk l34 c34 k34, sc_is_book, tx_is_book⟩
  have F35 : FnT l.prog w base ⟨K, mg⟩ pg Cn Rn "book_tells" d_book_tells f35 _ ["scroll", "book"] ["scroll", "book"] "book_tells" (topS 35) := ⟨PySem.W.mg_of X G a35, k35, (fun_mk l35 c35 k35).binds (ps := ["scroll", "book"]) (fun _ _ _ _ _ _ us hl => match us, hl with | [_, _], _ => rfl), rfl, rfl, by decide, fun_mk l35 c35 k35, sc_book_tells, tx_book_tells⟩
  have F36 : FnT l.prog w base ⟨K, mg⟩ pg Cn Rn "unrolled" d_unrolled f36 _ ["scroll", "book"] ["scroll", "book", "run", "piled", "number", "at", "deeds"] "unrolled" (topS 36) := ⟨PySem.W.mg_of X G a36, k36, (fun_mk l36 c36 k36).binds (ps := ["scroll", "book"]) (fun _ _ _ _ _ _ us hl => match us, hl with | [_, _], _ => rfl), rfl, rfl, by decide, fun_mk l36 c36 k36, sc_unrolled, tx_unrolled⟩
  have F39 : FnT l.prog w base ⟨K, mg⟩ pg Cn Rn "_law_digits" d__law_digits f39 _ ["_law_cell", "_law_turn", "_law_sizes"] ["_law_cell", "_law_turn", "_law_sizes", "_law_number", "_law_wide", "_law_seed", "_law_found", "_law_k", "_law_size"] "_law_digits" (topS 39) := ⟨PySem.W.mg_of X G a39, k39, (fun_mk l39 c39 k39).binds (ps := ["_law_cell", "_law_turn", "_law_sizes"]) (fun _ _ _ _ _ _ us hl => match us, hl with | [_, _, _], _ => rfl), rfl, rfl, by decide, fun_mk l39 c39 k39, sc__law_digits, tx__law_digits⟩
  have F40 : FnT l.prog w base ⟨K, mg⟩ pg Cn Rn "_law_scroll" d__law_scroll f40 _ ["_law_calls", "_law_more", "_law_inner", "_law_last"] ["_law_calls", "_law_more", "_law_inner", "_law_last", "_law_first", "_law_k", "_law_second", "_law_third"] "_law_scroll" (topS 40) := ⟨PySem.W.mg_of X G a40, k40, (fun_mk l40 c40 k40).binds (ps := ["_law_calls", "_law_more", "_law_inner", "_law_last"]) (fun _ _ _ _ _ _ us hl => match us, hl with | [_, _, _, _], _ => rfl), rfl, rfl, by decide, fun_mk l40 c40 k40, sc__law_scroll, tx__law_scroll⟩
  have F41 : FnT l.prog w base ⟨K, mg⟩ pg Cn Rn "_law_book" d__law_book f41 _ ["_law_calls", "_law_more", "_law_inner", "_law_last"] ["_law_calls", "_law_more", "_law_inner", "_law_last", "_law_leaf", "_law_book_here"] "_law_book" (topS 41) := ⟨PySem.W.mg_of X G a41, k41, (fun_mk l41 c41 k41).binds (ps := ["_law_calls", "_law_more", "_law_inner", "_law_last"]) (fun _ _ _ _ _ _ us hl => match us, hl with | [_, _, _, _], _ => rfl), rfl, rfl, by decide, fun_mk l41 c41 k41, sc__law_book, tx__law_book⟩
  have F42 : FnT l.prog w base ⟨K, mg⟩ pg Cn Rn "_law_kept" d__law_kept f42 _ ["_law_scroll_here", "_law_book_here"] ["_law_scroll_here", "_law_book_here", "_law_kept_here", "e", "_law_some"] "_law_kept" (topS 42) := ⟨PySem.W.mg_of X G a42, k42, (fun_mk l42 c42 k42).binds (ps := ["_law_scroll_here", "_law_book_here"]) (fun _ _ _ _ _ _ us hl => match us, hl with | [_, _], _ => rfl), rfl, rfl, by decide, fun_mk l42 c42 k42, sc__law_kept, tx__law_kept⟩
  have F43 : FnT l.prog w base ⟨K, mg⟩ pg Cn Rn "_law_right" d__law_right f43 _ ["_law_calls", "_law_more", "_law_inner", "_law_last"] ["_law_calls", "_law_more", "_law_inner", "_law_last", "_law_scroll_here", "_law_book_here", "_law_many", "_law_small", "_law_found", "_law_one"] "_law_right" (topS 43) := ⟨PySem.W.mg_of X G a43, k43, (fun_mk l43 c43 k43).binds (ps := ["_law_calls", "_law_more", "_law_inner", "_law_last"]) (fun _ _ _ _ _ _ us hl => match us, hl with | [_, _, _, _], _ => rfl), rfl, rfl, by decide, fun_mk l43 c43 k43, sc__law_right, tx__law_right⟩
  have F44 : FnT l.prog w base ⟨K, mg⟩ pg Cn Rn "_law_short_right" d__law_short_right f44 _ [] ["_law_scroll_here", "_law_rows", "_law_k", "_law_book_here", "_law_first"] "_law_short_right" (topS 44) := ⟨PySem.W.mg_of X G a44, k44, (fun_mk l44 c44 k44).binds (ps := []) (fun _ _ _ _ _ _ us hl => match us, hl with | [], _ => rfl), rfl, rfl, by decide, fun_mk l44 c44 k44, sc__law_short_right, tx__law_short_right⟩
  have F45 : FnT l.prog w base ⟨K, mg⟩ pg Cn Rn "law" d_law f45 _ ["_law_script"] ["_law_script", "_law_calls", "_law_more", "_law_inner", "_law_last", "_law_k", "_law_cell", "_law_d"] "law" (topS 45) := ⟨PySem.W.mg_of X G a45, k45, (fun_mk l45 c45 k45).binds (ps := ["_law_script"]) (fun _ _ _ _ _ _ us hl => match us, hl with | [_], _ => rfl), rfl, rfl, by decide, fun_mk l45 c45 k45, sc_law, tx_law⟩
  have fns : ∀ f df, pg.defs f = some df → ∃ fa fd ps N qual st, FnT l.prog w base ⟨K, mg⟩ pg Cn Rn f df fa fd ps N qual st := by
    intro f df h
    have hm := mem_look h
    simp only [defsL, List.mem_cons, List.not_mem_nil, or_false, Prod.mk.injEq] at hm
    rcases hm with ⟨rfl, rfl⟩ | ⟨rfl, rfl⟩ | ⟨rfl, rfl⟩ | ⟨rfl, rfl⟩ | ⟨rfl, rfl⟩ | ⟨rfl, rfl⟩ | ⟨rfl, rfl⟩ | ⟨rfl, rfl⟩ | ⟨rfl, rfl⟩ | ⟨rfl, rfl⟩ | ⟨rfl, rfl⟩ | ⟨rfl, rfl⟩ | ⟨rfl, rfl⟩ | ⟨rfl, rfl⟩ | ⟨rfl, rfl⟩ | ⟨rfl, rfl⟩ | ⟨rfl, rfl⟩ | ⟨rfl, rfl⟩ | ⟨rfl, rfl⟩ | ⟨rfl, rfl⟩ | ⟨rfl, rfl⟩ | ⟨rfl, rfl⟩ | ⟨rfl, rfl⟩ | ⟨rfl, rfl⟩ | ⟨rfl, rfl⟩ | ⟨rfl, rfl⟩ | ⟨rfl, rfl⟩ | ⟨rfl, rfl⟩ | ⟨rfl, rfl⟩ | ⟨rfl, rfl⟩ | ⟨rfl, rfl⟩ | ⟨rfl, rfl⟩
    · exact ⟨_, _, _, _, _, _, F1⟩
    · exact ⟨_, _, _, _, _, _, F2⟩
    · exact ⟨_, _, _, _, _, _, F3⟩
    · exact ⟨_, _, _, _, _, _, F4⟩
    · exact ⟨_, _, _, _, _, _, F5⟩
    · exact ⟨_, _, _, _, _, _, F6⟩
    · exact ⟨_, _, _, _, _, _, F15⟩
    · exact ⟨_, _, _, _, _, _, F16⟩
    · exact ⟨_, _, _, _, _, _, F17⟩
    · exact ⟨_, _, _, _, _, _, F18⟩
    · exact ⟨_, _, _, _, _, _, F19⟩
    · exact ⟨_, _, _, _, _, _, F20⟩
    · exact ⟨_, _, _, _, _, _, F21⟩
    · exact ⟨_, _, _, _, _, _, F22⟩
    · exact ⟨_, _, _, _, _, _, F23⟩
    · exact ⟨_, _, _, _, _, _, F25⟩
    · exact ⟨_, _, _, _, _, _, F26⟩
    · exact ⟨_, _, _, _, _, _, F29⟩
    · exact ⟨_, _, _, _, _, _, F30⟩
    · exact ⟨_, _, _, _, _, _, F31⟩
    · exact ⟨_, _, _, _, _, _, F32⟩
    · exact ⟨_, _, _, _, _, _, F33⟩
    · exact ⟨_, _, _, _, _, _, F34⟩
    · exact ⟨_, _, _, _, _, _, F35⟩
    · exact ⟨_, _, _, _, _, _, F36⟩
    · exact ⟨_, _, _, _, _, _, F39⟩
    · exact ⟨_, _, _, _, _, _, F40⟩
    · exact ⟨_, _, _, _, _, _, F41⟩
    · exact ⟨_, _, _, _, _, _, F42⟩
    · exact ⟨_, _, _, _, _, _, F43⟩
    · exact ⟨_, _, _, _, _, _, F44⟩
    · exact ⟨_, _, _, _, _, _, F45⟩
  refine FnOk.imp (fn_lift (m := 100000) (k := 19) (lnk_all B fns 19) B.rs rfl F45) ?_
  rintro vs H Q E ⟨a, ns, rfl, hS, hl, hQ⟩
  refine ⟨rfl, H, [.fz (.scr ns)], [] ++ [], Same.refl _, .cons (.fz (.scr hS)) .nil, ?_⟩
  rw [show callK pg 100000 (19 + 1) "law" [.fz (.scr ns)] = .ok (.fz (.bl true)) from law_true ns hl]
  intro v G2 H2 p
  obtain ⟨fp, r, _⟩ := p.r
  rw [r.fz_inv.bl_inv]
  exact hQ H2
end My
open PySem PySem.W PyProof.Rows
set_option maxHeartbeats 0 in
theorem PySem.Challenge.cw_roundhand_k43_unrolled_at_the_bound_holds : PySem.Challenge.rw_roundhand_k43_unrolled_at_the_bound.Holds := by
  w_on; o_law; k_head; (case hw => w_witness2)
  k_fill
  refine L2.walk_of (l := PySem.Challenge.rw_roundhand_k43_unrolled_at_the_bound) (n := 63) (k := 20) (x := "_law_script") (CX := fun w => L2.CX PySem.Challenge.rw_roundhand_k43_unrolled_at_the_bound.prog w) (sp := fun w => My.spLaw _) rfl (by decide) rfl ⟨rfl, by decide, by decide⟩ (fun w h Y => PySem.W.kIn_of Y) ?F (fun _ _ a ns hl _ hS => ⟨a, ns, rfl, hS, hl, fun _ => rfl⟩) ?CXX
  case CXX =>
    intro w H s e s' h
    obtain ⟨_, _, _, _, _, _, _, _, _, _, _, _, z⟩ := h
    exact z
  case F =>
    intro w mg fa h KX G hmg
    refine' My.all_mk KX G hmg ?a1 ?l1 ?c1 ?k1 ?a2 ?l2 ?c2 ?k2 ?a3 ?l3 ?c3 ?k3 ?a4 ?l4 ?c4 ?k4 ?a5 ?l5 ?c5 ?k5 ?a6 ?l6 ?c6 ?k6 ?a15 ?l15 ?c15 ?k15 ?a16 ?l16 ?c16 ?k16 ?a17 ?l17 ?c17 ?k17 ?a18 ?l18 ?c18 ?k18 ?a19 ?l19 ?c19 ?k19 ?a20 ?l20 ?c20 ?k20 ?a21 ?l21 ?c21 ?k21 ?a22 ?l22 ?c22 ?k22 ?a23 ?l23 ?c23 ?k23 ?a25 ?l25 ?c25 ?k25 ?a26 ?l26 ?c26 ?k26 ?a29 ?l29 ?c29 ?k29 ?a30 ?l30 ?c30 ?k30 ?a31 ?l31 ?c31 ?k31 ?a32 ?l32 ?c32 ?k32 ?a33 ?l33 ?c33 ?k33 ?a34 ?l34 ?c34 ?k34 ?a35 ?l35 ?c35 ?k35 ?a36 ?l36 ?c36 ?k36 ?a39 ?l39 ?c39 ?k39 ?a40 ?l40 ?c40 ?k40 ?a41 ?l41 ?c41 ?k41 ?a42 ?l42 ?c42 ?k42 ?a43 ?l43 ?c43 ?k43 ?a44 ?l44 ?c44 ?k44 ?a45 ?l45 ?c45 ?k45 ?z0 ?z1 ?z2 ?z3 ?z4 ?z5 ?z6 ?z7 ?z8 ?z9 ?z10 ?z11 ?z12 ?z13 ?z14 ?aCHandError ?iCHandError ?tCHandError ?bCHandError ?nCHandError ?aCTooMany ?iCTooMany ?tCTooMany ?bCTooMany ?nCTooMany ?aCNoRun ?iCNoRun ?tCNoRun ?bCNoRun ?nCNoRun ?aCNoStep ?iCNoStep ?tCNoStep ?bCNoStep ?nCNoStep ?aCTooLong ?iCTooLong ?tCTooLong ?bCTooLong ?nCTooLong ?aBValueError ?nBValueError ?bBValueError ?sTooLong_HandError ?sTooLong_TooMany ?sTooLong_NoRun ?sTooLong_NoStep ?sTooLong_ValueError ?sTooLong_TooLong ?x1TooLong ?x2TooLong ?e1TooLong ?e2TooLong ?e4TooLong ?e5TooLong ?e6TooLong ?e7TooLong ?e8TooLong ?gCOUNTED ?hCOUNTED ?gMOST_CHOICES
    (case a1 => k_is)
    (case l1 => k_is)
    (case c1 => k_is)
    (case k1 => k_is)
    (case a2 => k_is)
    (case l2 => k_is)
    (case c2 => k_is)
    (case k2 => k_is)
    (case a3 => k_is)
    (case l3 => k_is)
    (case c3 => k_is)
    (case k3 => k_is)
    (case a4 => k_is)
    (case l4 => k_is)
    (case c4 => k_is)
    (case k4 => k_is)
    (case a5 => k_is)
    (case l5 => k_is)
    (case c5 => k_is)
    (case k5 => k_is)
    (case a6 => k_is)
    (case l6 => k_is)
    (case c6 => k_is)
    (case k6 => k_is)
    (case a15 => k_is)
    (case l15 => k_is)
    (case c15 => k_is)
    (case k15 => k_is)
    (case a16 => k_is)
    (case l16 => k_is)
    (case c16 => k_is)
    (case k16 => k_is)
    (case a17 => k_is)
    (case l17 => k_is)
    (case c17 => k_is)
    (case k17 => k_is)
    (case a18 => k_is)
    (case l18 => k_is)
    (case c18 => k_is)
    (case k18 => k_is)
    (case a19 => k_is)
    (case l19 => k_is)
    (case c19 => k_is)
    (case k19 => k_is)
    (case a20 => k_is)
    (case l20 => k_is)
    (case c20 => k_is)
    (case k20 => k_is)
    (case a21 => k_is)
    (case l21 => k_is)
    (case c21 => k_is)
    (case k21 => k_is)
    (case a22 => k_is)
    (case l22 => k_is)
    (case c22 => k_is)
    (case k22 => k_is)
    (case a23 => k_is)
    (case l23 => k_is)
    (case c23 => k_is)
    (case k23 => k_is)
    (case a25 => k_is)
    (case l25 => k_is)
    (case c25 => k_is)
    (case k25 => k_is)
    (case a26 => k_is)
    (case l26 => k_is)
    (case c26 => k_is)
    (case k26 => k_is)
    (case a29 => k_is)
    (case l29 => k_is)
    (case c29 => k_is)
    (case k29 => k_is)
    (case a30 => k_is)
    (case l30 => k_is)
    (case c30 => k_is)
    (case k30 => k_is)
    (case a31 => k_is)
    (case l31 => k_is)
    (case c31 => k_is)
    (case k31 => k_is)
    (case a32 => k_is)
    (case l32 => k_is)
    (case c32 => k_is)
    (case k32 => k_is)
    (case a33 => k_is)
    (case l33 => k_is)
    (case c33 => k_is)
    (case k33 => k_is)
    (case a34 => k_is)
    (case l34 => k_is)
    (case c34 => k_is)
    (case k34 => k_is)
    (case a35 => k_is)
    (case l35 => k_is)
    (case c35 => k_is)
    (case k35 => k_is)
    (case a36 => k_is)
    (case l36 => k_is)
    (case c36 => k_is)
    (case k36 => k_is)
    (case a39 => k_is)
    (case l39 => k_is)
    (case c39 => k_is)
    (case k39 => k_is)
    (case a40 => k_is)
    (case l40 => k_is)
    (case c40 => k_is)
    (case k40 => k_is)
    (case a41 => k_is)
    (case l41 => k_is)
    (case c41 => k_is)
    (case k41 => k_is)
    (case a42 => k_is)
    (case l42 => k_is)
    (case c42 => k_is)
    (case k42 => k_is)
    (case a43 => k_is)
    (case l43 => k_is)
    (case c43 => k_is)
    (case k43 => k_is)
    (case a44 => k_is)
    (case l44 => k_is)
    (case c44 => k_is)
    (case k44 => k_is)
    (case a45 => k_is)
    (case l45 => k_is)
    (case c45 => k_is)
    (case k45 => k_is)
    (case z0 => k_is)
    (case z1 => k_is)
    (case z2 => k_is)
    (case z3 => k_is)
    (case z4 => k_is)
    (case z5 => k_is)
    (case z6 => k_is)
    (case z7 => k_is)
    (case z8 => k_is)
    (case z9 => k_is)
    (case z10 => k_is)
    (case z11 => k_is)
    (case z12 => k_is)
    (case z13 => k_is)
    (case z14 => k_is)
    (case aCHandError => k_is)
    (case iCHandError => k_is)
    (case tCHandError => k_is)
    (case bCHandError => k_is)
    (case nCHandError => first | rfl | k_is | decide +kernel)
    (case aCTooMany => k_is)
    (case iCTooMany => k_is)
    (case tCTooMany => k_is)
    (case bCTooMany => k_is)
    (case nCTooMany => first | rfl | k_is | decide +kernel)
    (case aCNoRun => k_is)
    (case iCNoRun => k_is)
    (case tCNoRun => k_is)
    (case bCNoRun => k_is)
    (case nCNoRun => first | rfl | k_is | decide +kernel)
    (case aCNoStep => k_is)
    (case iCNoStep => k_is)
    (case tCNoStep => k_is)
    (case bCNoStep => k_is)
    (case nCNoStep => first | rfl | k_is | decide +kernel)
    (case aCTooLong => k_is)
    (case iCTooLong => k_is)
    (case tCTooLong => k_is)
    (case bCTooLong => k_is)
    (case nCTooLong => first | rfl | k_is | decide +kernel)
    (case aBValueError => k_is)
    (case nBValueError => first | k_is | rfl)
    (case bBValueError => first | k_is | rfl)
    (case sTooLong_HandError => first | k_is | rfl)
    (case sTooLong_TooMany => first | k_is | rfl)
    (case sTooLong_NoRun => first | k_is | rfl)
    (case sTooLong_NoStep => first | k_is | rfl)
    (case sTooLong_ValueError => first | k_is | rfl)
    (case sTooLong_TooLong => first | k_is | rfl)
    (case x1TooLong => k_exc)
    (case x2TooLong => k_is)
    (case e1TooLong => k_is)
    (case e2TooLong => k_is)
    (case e4TooLong => k_is)
    (case e5TooLong => k_is)
    (case e6TooLong => k_is)
    (case e7TooLong => k_is)
    (case e8TooLong => k_is)
    (case gCOUNTED => k_is)
    (case hCOUNTED => k_is)
    (case gMOST_CHOICES => k_is)

