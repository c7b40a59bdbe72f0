import PyProof.Rows.All
import Wide.All
import OpenK.AllK
import Wide.FinOn
import KE.KStateDown
import Lean
import HandS.Base
import HandS.Call
import HandS.Ends
import HandS.More
import HandS.Words
import HandS.WordsExc
import HandS.Defaults
import HandS.Head0
import HandS.Head1
import HandS.Head2
import HandS.HeadEnd
import HandS.HeadHook1
import HandS.HeadHook2
import PySem.Challenge.RW_signrounds_k77_whole_put_in_and_joined_a
import HandS.ForMost
import HandS.Evl
import HandS.IsInst
import HandS.Style
import HandS.TupAny
import HandS.TupMul
import HandS.TupLe
import HandS.Conv
import HandS.Flow
import HandS.Wide
import HandS.WideBits
import HandS.Walk
import KE.GoesMore
import PyProof.Rows.SortShell
import PyProof.TupleOfSeq
import KE.IntBitsLaws
import HandS.EndBits
set_option Elab.async false
set_option linter.all false
set_option maxRecDepth 100000
set_option maxHeartbeats 0
namespace Sg
open PySem PySem.Spec PyProof.Rows L2
def top (i : Nat) : Stmt := PySem.Challenge.pw_signrounds_k77_whole_put_in_and_joined_a.main.body.getD i (.Pass ⟨0, 0, 0, 0⟩)
abbrev Df (K : PySem.W.Frag) (mg : Str → Option Value) (x : Str) (st : Stmt) : Prop := ∃ (f : Addr) (fd : FuncData), FunD K x x (defArgs st) (defBody st) (defScope st) [] [] f fd ∧ mg x = some (.ref f)

structure Top (K : PySem.W.Frag) (mg : Str → Option Value) : Prop where
  d_is_integer : Df K mg "is_integer" (top 9)
  d_is_between : Df K mg "is_between" (top 10)
  d_is_tuple_of : Df K mg "is_tuple_of" (top 11)
  d_is_sign : Df K mg "is_sign" (top 12)
  d_is_lot_of : Df K mg "is_lot_of" (top 13)
  d_check_lot : Df K mg "check_lot" (top 14)
  d_check_place : Df K mg "check_place" (top 15)
  d_check_sign : Df K mg "check_sign" (top 16)
  d_others_of : Df K mg "others_of" (top 17)
  d_is_web : Df K mg "is_web" (top 19)
  d_check_web : Df K mg "check_web" (top 20)
  d_ties_of : Df K mg "ties_of" (top 21)
  d_foes_of : Df K mg "foes_of" (top 22)
  d_ring_by : Df K mg "ring_by" (top 23)
  d_check_room : Df K mg "check_room" (top 25)
  d_joined_all : Df K mg "joined_all" (top 26)
  d_put_in : Df K mg "put_in" (top 27)
  d_way_up : Df K mg "way_up" (top 29)
  d_ring_through : Df K mg "ring_through" (top 30)
  d_walked : Df K mg "walked" (top 31)
  d_balance_of : Df K mg "balance_of" (top 32)
  d_some_bad_ring : Df K mg "some_bad_ring" (top 33)
  d_is_balanced : Df K mg "is_balanced" (top 34)
  d_is_camp_of : Df K mg "is_camp_of" (top 35)
  d_is_camp : Df K mg "is_camp" (top 36)
  d_has_same_ties : Df K mg "has_same_ties" (top 38)
  d_product_of : Df K mg "product_of" (top 39)
  d_alike_of : Df K mg "alike_of" (top 40)
  d_are_alike : Df K mg "are_alike" (top 41)
  d_foe_table : Df K mg "foe_table" (top 43)
  d_trouble_of : Df K mg "trouble_of" (top 44)
  d_trouble : Df K mg "trouble" (top 45)
  d_law_well : Df K mg "_law_well" (top 47)
  d_law_dip : Df K mg "_law_dip" (top 48)
  d_law_web : Df K mg "_law_web" (top 49)
  d_law_lot : Df K mg "_law_lot" (top 50)
  d_law_turned : Df K mg "_law_turned" (top 51)
  d_law_sides : Df K mg "_law_sides" (top 52)
  d_law_trouble : Df K mg "_law_trouble" (top 53)
  d_law_some_web : Df K mg "_law_some_web" (top 54)
  d_law_no_foe : Df K mg "_law_no_foe" (top 55)
  d_law_balanced_right : Df K mg "_law_balanced_right" (top 56)
  d_law_put_right : Df K mg "_law_put_right" (top 57)
  d_law_all_right : Df K mg "_law_all_right" (top 58)
  d_law : Df K mg "law" (top 59)
  b_len : mg "len" = none
  b_isinstance : mg "isinstance" = none
  b_int : mg "int" = none
  b_bool : mg "bool" = none
  b_tuple : mg "tuple" = none
  b_all : mg "all" = none
  b_range : mg "range" = none
  b_abs : mg "abs" = none
  b_sum : mg "sum" = none
  b_min : mg "min" = none
  b_enumerate : mg "enumerate" = none
  b_sorted : mg "sorted" = none
  most : ∃ t, mg "MOST_PLACES" = some (.int 10 t)
end Sg
set_option maxHeartbeats 0
namespace Sg
open PySem PySem.Spec PyProof.Rows L2
def dd_is_integer : He.DefD := ⟨("is_integer", none), "is_integer", "is_integer", defArgs (top 9), defBody (top 9), defScope (top 9), [], []⟩
def dd_is_between : He.DefD := ⟨("is_between", none), "is_between", "is_between", defArgs (top 10), defBody (top 10), defScope (top 10), [], []⟩
def dd_is_tuple_of : He.DefD := ⟨("is_tuple_of", none), "is_tuple_of", "is_tuple_of", defArgs (top 11), defBody (top 11), defScope (top 11), [], []⟩
def dd_is_sign : He.DefD := ⟨("is_sign", none), "is_sign", "is_sign", defArgs (top 12), defBody (top 12), defScope (top 12), [], []⟩
def dd_is_lot_of : He.DefD := ⟨("is_lot_of", none), "is_lot_of", "is_lot_of", defArgs (top 13), defBody (top 13), defScope (top 13), [], []⟩
def dd_check_lot : He.DefD := ⟨("check_lot", none), "check_lot", "check_lot", defArgs (top 14), defBody (top 14), defScope (top 14), [], []⟩
def dd_check_place : He.DefD := ⟨("check_place", none), "check_place", "check_place", defArgs (top 15), defBody (top 15), defScope (top 15), [], []⟩
def dd_check_sign : He.DefD := ⟨("check_sign", none), "check_sign", "check_sign", defArgs (top 16), defBody (top 16), defScope (top 16), [], []⟩
def dd_others_of : He.DefD := ⟨("others_of", none), "others_of", "others_of", defArgs (top 17), defBody (top 17), defScope (top 17), [], []⟩
def dd_is_web : He.DefD := ⟨("is_web", none), "is_web", "is_web", defArgs (top 19), defBody (top 19), defScope (top 19), [], []⟩
def dd_check_web : He.DefD := ⟨("check_web", none), "check_web", "check_web", defArgs (top 20), defBody (top 20), defScope (top 20), [], []⟩
def dd_ties_of : He.DefD := ⟨("ties_of", none), "ties_of", "ties_of", defArgs (top 21), defBody (top 21), defScope (top 21), [], []⟩
def dd_foes_of : He.DefD := ⟨("foes_of", none), "foes_of", "foes_of", defArgs (top 22), defBody (top 22), defScope (top 22), [], []⟩
def dd_ring_by : He.DefD := ⟨("ring_by", none), "ring_by", "ring_by", defArgs (top 23), defBody (top 23), defScope (top 23), [], []⟩
def dd_check_room : He.DefD := ⟨("check_room", none), "check_room", "check_room", defArgs (top 25), defBody (top 25), defScope (top 25), [], []⟩
def dd_joined_all : He.DefD := ⟨("joined_all", none), "joined_all", "joined_all", defArgs (top 26), defBody (top 26), defScope (top 26), [], []⟩
def dd_put_in : He.DefD := ⟨("put_in", none), "put_in", "put_in", defArgs (top 27), defBody (top 27), defScope (top 27), [], []⟩
def dd_way_up : He.DefD := ⟨("way_up", none), "way_up", "way_up", defArgs (top 29), defBody (top 29), defScope (top 29), [], []⟩
def dd_ring_through : He.DefD := ⟨("ring_through", none), "ring_through", "ring_through", defArgs (top 30), defBody (top 30), defScope (top 30), [], []⟩
def dd_walked : He.DefD := ⟨("walked", none), "walked", "walked", defArgs (top 31), defBody (top 31), defScope (top 31), [], []⟩
def dd_balance_of : He.DefD := ⟨("balance_of", none), "balance_of", "balance_of", defArgs (top 32), defBody (top 32), defScope (top 32), [], []⟩
def dd_some_bad_ring : He.DefD := ⟨("some_bad_ring", none), "some_bad_ring", "some_bad_ring", defArgs (top 33), defBody (top 33), defScope (top 33), [], []⟩
def dd_is_balanced : He.DefD := ⟨("is_balanced", none), "is_balanced", "is_balanced", defArgs (top 34), defBody (top 34), defScope (top 34), [], []⟩
def dd_is_camp_of : He.DefD := ⟨("is_camp_of", none), "is_camp_of", "is_camp_of", defArgs (top 35), defBody (top 35), defScope (top 35), [], []⟩
def dd_is_camp : He.DefD := ⟨("is_camp", none), "is_camp", "is_camp", defArgs (top 36), defBody (top 36), defScope (top 36), [], []⟩
def dd_has_same_ties : He.DefD := ⟨("has_same_ties", none), "has_same_ties", "has_same_ties", defArgs (top 38), defBody (top 38), defScope (top 38), [], []⟩
def dd_product_of : He.DefD := ⟨("product_of", none), "product_of", "product_of", defArgs (top 39), defBody (top 39), defScope (top 39), [], []⟩
def dd_alike_of : He.DefD := ⟨("alike_of", none), "alike_of", "alike_of", defArgs (top 40), defBody (top 40), defScope (top 40), [], []⟩
def dd_are_alike : He.DefD := ⟨("are_alike", none), "are_alike", "are_alike", defArgs (top 41), defBody (top 41), defScope (top 41), [], []⟩
def dd_foe_table : He.DefD := ⟨("foe_table", none), "foe_table", "foe_table", defArgs (top 43), defBody (top 43), defScope (top 43), [], []⟩
def dd_trouble_of : He.DefD := ⟨("trouble_of", none), "trouble_of", "trouble_of", defArgs (top 44), defBody (top 44), defScope (top 44), [], []⟩
def dd_trouble : He.DefD := ⟨("trouble", none), "trouble", "trouble", defArgs (top 45), defBody (top 45), defScope (top 45), [], []⟩
def dd_law_well : He.DefD := ⟨("_law_well", none), "_law_well", "_law_well", defArgs (top 47), defBody (top 47), defScope (top 47), [], []⟩
def dd_law_dip : He.DefD := ⟨("_law_dip", none), "_law_dip", "_law_dip", defArgs (top 48), defBody (top 48), defScope (top 48), [], []⟩
def dd_law_web : He.DefD := ⟨("_law_web", none), "_law_web", "_law_web", defArgs (top 49), defBody (top 49), defScope (top 49), [], []⟩
def dd_law_lot : He.DefD := ⟨("_law_lot", none), "_law_lot", "_law_lot", defArgs (top 50), defBody (top 50), defScope (top 50), [], []⟩
def dd_law_turned : He.DefD := ⟨("_law_turned", none), "_law_turned", "_law_turned", defArgs (top 51), defBody (top 51), defScope (top 51), [], []⟩
def dd_law_sides : He.DefD := ⟨("_law_sides", none), "_law_sides", "_law_sides", defArgs (top 52), defBody (top 52), defScope (top 52), [], []⟩
def dd_law_trouble : He.DefD := ⟨("_law_trouble", none), "_law_trouble", "_law_trouble", defArgs (top 53), defBody (top 53), defScope (top 53), [], []⟩
def dd_law_some_web : He.DefD := ⟨("_law_some_web", none), "_law_some_web", "_law_some_web", defArgs (top 54), defBody (top 54), defScope (top 54), [], []⟩
def dd_law_no_foe : He.DefD := ⟨("_law_no_foe", none), "_law_no_foe", "_law_no_foe", defArgs (top 55), defBody (top 55), defScope (top 55), [], []⟩
def dd_law_balanced_right : He.DefD := ⟨("_law_balanced_right", none), "_law_balanced_right", "_law_balanced_right", defArgs (top 56), defBody (top 56), defScope (top 56), [], []⟩
def dd_law_put_right : He.DefD := ⟨("_law_put_right", none), "_law_put_right", "_law_put_right", defArgs (top 57), defBody (top 57), defScope (top 57), [], []⟩
def dd_law_all_right : He.DefD := ⟨("_law_all_right", none), "_law_all_right", "_law_all_right", defArgs (top 58), defBody (top 58), defScope (top 58), [], []⟩
def dd_law : He.DefD := ⟨("law", none), "law", "law", defArgs (top 59), defBody (top 59), defScope (top 59), [], []⟩
def fn0 : List He.DefD := [dd_is_integer, dd_is_between, dd_is_tuple_of, dd_is_sign, dd_is_lot_of, dd_check_lot, dd_check_place, dd_check_sign, dd_others_of, dd_is_web, dd_check_web, dd_ties_of, dd_foes_of, dd_ring_by, dd_check_room, dd_joined_all, dd_put_in, dd_way_up, dd_ring_through, dd_walked]
def fn1 : List He.DefD := [dd_balance_of, dd_some_bad_ring, dd_is_balanced, dd_is_camp_of, dd_is_camp, dd_has_same_ties, dd_product_of, dd_alike_of, dd_are_alike, dd_foe_table, dd_trouble_of, dd_trouble, dd_law_well, dd_law_dip, dd_law_web, dd_law_lot, dd_law_turned, dd_law_sides, dd_law_trouble, dd_law_some_web]
def fn2 : List He.DefD := [dd_law_no_foe, dd_law_balanced_right, dd_law_put_right, dd_law_all_right, dd_law]
def fn : List He.DefD := fn0 ++ (fn1 ++ (fn2))
def fa0 : List He.Fa := [.glo "is_integer", .glo "is_between", .glo "is_tuple_of", .glo "is_sign", .glo "is_lot_of", .glo "check_lot", .glo "check_place", .glo "check_sign", .glo "others_of", .glo "is_web", .glo "check_web", .glo "ties_of", .glo "foes_of", .glo "ring_by", .glo "check_room", .glo "joined_all", .glo "put_in", .glo "way_up", .glo "ring_through", .glo "walked"]
def fa1 : List He.Fa := [.glo "balance_of", .glo "some_bad_ring", .glo "is_balanced", .glo "is_camp_of", .glo "is_camp", .glo "has_same_ties", .glo "product_of", .glo "alike_of", .glo "are_alike", .glo "foe_table", .glo "trouble_of", .glo "trouble", .glo "_law_well", .glo "_law_dip", .glo "_law_web", .glo "_law_lot", .glo "_law_turned", .glo "_law_sides", .glo "_law_trouble", .glo "_law_some_web"]
def fa2 : List He.Fa := [.glo "_law_no_foe", .glo "_law_balanced_right", .glo "_law_put_right", .glo "_law_all_right", .glo "law", .free "len", .free "isinstance", .free "int", .free "bool", .free "tuple", .free "all", .free "range", .free "abs", .free "sum", .free "min", .free "enumerate", .free "sorted", .int "MOST_PLACES" 10]
def fa : List He.Fa := fa0 ++ (fa1 ++ (fa2))
def loose0 : List PySem.Str := ["__name__", "SignError", "InvalidWeb", "InvalidPlace", "InvalidLot", "InvalidSign", "TooMany", "MOST_PLACES", "is_integer", "is_between", "is_tuple_of", "is_sign", "is_lot_of", "check_lot", "check_place", "check_sign", "others_of", "is_web", "check_web", "ties_of"]
def loose1 : List PySem.Str := ["foes_of", "ring_by", "check_room", "joined_all", "put_in", "way_up", "ring_through", "walked", "balance_of", "some_bad_ring", "is_balanced", "is_camp_of", "is_camp", "has_same_ties", "product_of", "alike_of", "are_alike", "foe_table", "trouble_of", "trouble"]
def loose2 : List PySem.Str := ["_law_well", "_law_dip", "_law_web", "_law_lot", "_law_turned", "_law_sides", "_law_trouble", "_law_some_web", "_law_no_foe", "_law_balanced_right", "_law_put_right", "_law_all_right"]
def loose : List PySem.Str := loose0 ++ (loose1 ++ (loose2))
abbrev R : PySem.W.OpenRow := PySem.W.OpenLaw.row PySem.Challenge.rw_signrounds_k77_whole_put_in_and_joined_a
abbrev hk : PySem.W.Hook := He.hookD 4 fa fn
def ob (s : PySem.W.SharedT) : He.AlD := He.obsDG 4 fa fn (HandSHeadRun.getT s)
theorem ob_eq (s : PySem.W.SharedT) : ob s = hk.obs s.abs := He.obsDG_eq (HandSHeadRun.getT_eq s)
theorem run (w : World) : HandSHeadRun.RunEq R (PySem.W.view R.prog [59]) hk ob 3000 loose w := by
  intro os
  kernel_rfl

theorem tops {K : PySem.W.Frag} {h : Heap} {mg : Str → Option Value} (X : K.In h) (G : h.Ns mainGlobals mg) (c : He.SaysD fa fn K) : Top K mg where
  d_is_integer := by
    obtain ⟨fd, F⟩ := c.def_ 0 (d := dd_is_integer) rfl
    exact ⟨_, fd, F, He.glo_ok X G (c.fact 0 (f := .glo "is_integer") rfl)⟩
  d_is_between := by
    obtain ⟨fd, F⟩ := c.def_ 1 (d := dd_is_between) rfl
    exact ⟨_, fd, F, He.glo_ok X G (c.fact 1 (f := .glo "is_between") rfl)⟩
  d_is_tuple_of := by
    obtain ⟨fd, F⟩ := c.def_ 2 (d := dd_is_tuple_of) rfl
    exact ⟨_, fd, F, He.glo_ok X G (c.fact 2 (f := .glo "is_tuple_of") rfl)⟩
  d_is_sign := by
    obtain ⟨fd, F⟩ := c.def_ 3 (d := dd_is_sign) rfl
    exact ⟨_, fd, F, He.glo_ok X G (c.fact 3 (f := .glo "is_sign") rfl)⟩
  d_is_lot_of := by
    obtain ⟨fd, F⟩ := c.def_ 4 (d := dd_is_lot_of) rfl
    exact ⟨_, fd, F, He.glo_ok X G (c.fact 4 (f := .glo "is_lot_of") rfl)⟩
  d_check_lot := by
    obtain ⟨fd, F⟩ := c.def_ 5 (d := dd_check_lot) rfl
    exact ⟨_, fd, F, He.glo_ok X G (c.fact 5 (f := .glo "check_lot") rfl)⟩
  d_check_place := by
    obtain ⟨fd, F⟩ := c.def_ 6 (d := dd_check_place) rfl
    exact ⟨_, fd, F, He.glo_ok X G (c.fact 6 (f := .glo "check_place") rfl)⟩
  d_check_sign := by
    obtain ⟨fd, F⟩ := c.def_ 7 (d := dd_check_sign) rfl
    exact ⟨_, fd, F, He.glo_ok X G (c.fact 7 (f := .glo "check_sign") rfl)⟩
  d_others_of := by
    obtain ⟨fd, F⟩ := c.def_ 8 (d := dd_others_of) rfl
    exact ⟨_, fd, F, He.glo_ok X G (c.fact 8 (f := .glo "others_of") rfl)⟩
  d_is_web := by
    obtain ⟨fd, F⟩ := c.def_ 9 (d := dd_is_web) rfl
    exact ⟨_, fd, F, He.glo_ok X G (c.fact 9 (f := .glo "is_web") rfl)⟩
  d_check_web := by
    obtain ⟨fd, F⟩ := c.def_ 10 (d := dd_check_web) rfl
    exact ⟨_, fd, F, He.glo_ok X G (c.fact 10 (f := .glo "check_web") rfl)⟩
  d_ties_of := by
    obtain ⟨fd, F⟩ := c.def_ 11 (d := dd_ties_of) rfl
    exact ⟨_, fd, F, He.glo_ok X G (c.fact 11 (f := .glo "ties_of") rfl)⟩
  d_foes_of := by
    obtain ⟨fd, F⟩ := c.def_ 12 (d := dd_foes_of) rfl
    exact ⟨_, fd, F, He.glo_ok X G (c.fact 12 (f := .glo "foes_of") rfl)⟩
  d_ring_by := by
    obtain ⟨fd, F⟩ := c.def_ 13 (d := dd_ring_by) rfl
    exact ⟨_, fd, F, He.glo_ok X G (c.fact 13 (f := .glo "ring_by") rfl)⟩
  d_check_room := by
    obtain ⟨fd, F⟩ := c.def_ 14 (d := dd_check_room) rfl
    exact ⟨_, fd, F, He.glo_ok X G (c.fact 14 (f := .glo "check_room") rfl)⟩
  d_joined_all := by
    obtain ⟨fd, F⟩ := c.def_ 15 (d := dd_joined_all) rfl
    exact ⟨_, fd, F, He.glo_ok X G (c.fact 15 (f := .glo "joined_all") rfl)⟩
  d_put_in := by
    obtain ⟨fd, F⟩ := c.def_ 16 (d := dd_put_in) rfl
    exact ⟨_, fd, F, He.glo_ok X G (c.fact 16 (f := .glo "put_in") rfl)⟩
  d_way_up := by
    obtain ⟨fd, F⟩ := c.def_ 17 (d := dd_way_up) rfl
    exact ⟨_, fd, F, He.glo_ok X G (c.fact 17 (f := .glo "way_up") rfl)⟩
  d_ring_through := by
    obtain ⟨fd, F⟩ := c.def_ 18 (d := dd_ring_through) rfl
    exact ⟨_, fd, F, He.glo_ok X G (c.fact 18 (f := .glo "ring_through") rfl)⟩
  d_walked := by
    obtain ⟨fd, F⟩ := c.def_ 19 (d := dd_walked) rfl
    exact ⟨_, fd, F, He.glo_ok X G (c.fact 19 (f := .glo "walked") rfl)⟩
  d_balance_of := by
    obtain ⟨fd, F⟩ := c.def_ 20 (d := dd_balance_of) rfl
    exact ⟨_, fd, F, He.glo_ok X G (c.fact 20 (f := .glo "balance_of") rfl)⟩
  d_some_bad_ring := by
    obtain ⟨fd, F⟩ := c.def_ 21 (d := dd_some_bad_ring) rfl
    exact ⟨_, fd, F, He.glo_ok X G (c.fact 21 (f := .glo "some_bad_ring") rfl)⟩
  d_is_balanced := by
    obtain ⟨fd, F⟩ := c.def_ 22 (d := dd_is_balanced) rfl
    exact ⟨_, fd, F, He.glo_ok X G (c.fact 22 (f := .glo "is_balanced") rfl)⟩
  d_is_camp_of := by
    obtain ⟨fd, F⟩ := c.def_ 23 (d := dd_is_camp_of) rfl
    exact ⟨_, fd, F, He.glo_ok X G (c.fact 23 (f := .glo "is_camp_of") rfl)⟩
  d_is_camp := by
    obtain ⟨fd, F⟩ := c.def_ 24 (d := dd_is_camp) rfl
    exact ⟨_, fd, F, He.glo_ok X G (c.fact 24 (f := .glo "is_camp") rfl)⟩
  d_has_same_ties := by
    obtain ⟨fd, F⟩ := c.def_ 25 (d := dd_has_same_ties) rfl
    exact ⟨_, fd, F, He.glo_ok X G (c.fact 25 (f := .glo "has_same_ties") rfl)⟩
  d_product_of := by
    obtain ⟨fd, F⟩ := c.def_ 26 (d := dd_product_of) rfl
    exact ⟨_, fd, F, He.glo_ok X G (c.fact 26 (f := .glo "product_of") rfl)⟩
  d_alike_of := by
    obtain ⟨fd, F⟩ := c.def_ 27 (d := dd_alike_of) rfl
    exact ⟨_, fd, F, He.glo_ok X G (c.fact 27 (f := .glo "alike_of") rfl)⟩
  d_are_alike := by
    obtain ⟨fd, F⟩ := c.def_ 28 (d := dd_are_alike) rfl
    exact ⟨_, fd, F, He.glo_ok X G (c.fact 28 (f := .glo "are_alike") rfl)⟩
  d_foe_table := by
    obtain ⟨fd, F⟩ := c.def_ 29 (d := dd_foe_table) rfl
    exact ⟨_, fd, F, He.glo_ok X G (c.fact 29 (f := .glo "foe_table") rfl)⟩
  d_trouble_of := by
    obtain ⟨fd, F⟩ := c.def_ 30 (d := dd_trouble_of) rfl
    exact ⟨_, fd, F, He.glo_ok X G (c.fact 30 (f := .glo "trouble_of") rfl)⟩
  d_trouble := by
    obtain ⟨fd, F⟩ := c.def_ 31 (d := dd_trouble) rfl
    exact ⟨_, fd, F, He.glo_ok X G (c.fact 31 (f := .glo "trouble") rfl)⟩
  d_law_well := by
    obtain ⟨fd, F⟩ := c.def_ 32 (d := dd_law_well) rfl
    exact ⟨_, fd, F, He.glo_ok X G (c.fact 32 (f := .glo "_law_well") rfl)⟩
  d_law_dip := by
    obtain ⟨fd, F⟩ := c.def_ 33 (d := dd_law_dip) rfl
    exact ⟨_, fd, F, He.glo_ok X G (c.fact 33 (f := .glo "_law_dip") rfl)⟩
  d_law_web := by
    obtain ⟨fd, F⟩ := c.def_ 34 (d := dd_law_web) rfl
    exact ⟨_, fd, F, He.glo_ok X G (c.fact 34 (f := .glo "_law_web") rfl)⟩
  d_law_lot := by
    obtain ⟨fd, F⟩ := c.def_ 35 (d := dd_law_lot) rfl
    exact ⟨_, fd, F, He.glo_ok X G (c.fact 35 (f := .glo "_law_lot") rfl)⟩
  d_law_turned := by
    obtain ⟨fd, F⟩ := c.def_ 36 (d := dd_law_turned) rfl
    exact ⟨_, fd, F, He.glo_ok X G (c.fact 36 (f := .glo "_law_turned") rfl)⟩
  d_law_sides := by
    obtain ⟨fd, F⟩ := c.def_ 37 (d := dd_law_sides) rfl
    exact ⟨_, fd, F, He.glo_ok X G (c.fact 37 (f := .glo "_law_sides") rfl)⟩
  d_law_trouble := by
    obtain ⟨fd, F⟩ := c.def_ 38 (d := dd_law_trouble) rfl
    exact ⟨_, fd, F, He.glo_ok X G (c.fact 38 (f := .glo "_law_trouble") rfl)⟩
  d_law_some_web := by
    obtain ⟨fd, F⟩ := c.def_ 39 (d := dd_law_some_web) rfl
    exact ⟨_, fd, F, He.glo_ok X G (c.fact 39 (f := .glo "_law_some_web") rfl)⟩
  d_law_no_foe := by
    obtain ⟨fd, F⟩ := c.def_ 40 (d := dd_law_no_foe) rfl
    exact ⟨_, fd, F, He.glo_ok X G (c.fact 40 (f := .glo "_law_no_foe") rfl)⟩
  d_law_balanced_right := by
    obtain ⟨fd, F⟩ := c.def_ 41 (d := dd_law_balanced_right) rfl
    exact ⟨_, fd, F, He.glo_ok X G (c.fact 41 (f := .glo "_law_balanced_right") rfl)⟩
  d_law_put_right := by
    obtain ⟨fd, F⟩ := c.def_ 42 (d := dd_law_put_right) rfl
    exact ⟨_, fd, F, He.glo_ok X G (c.fact 42 (f := .glo "_law_put_right") rfl)⟩
  d_law_all_right := by
    obtain ⟨fd, F⟩ := c.def_ 43 (d := dd_law_all_right) rfl
    exact ⟨_, fd, F, He.glo_ok X G (c.fact 43 (f := .glo "_law_all_right") rfl)⟩
  d_law := by
    obtain ⟨fd, F⟩ := c.def_ 44 (d := dd_law) rfl
    exact ⟨_, fd, F, He.glo_ok X G (c.fact 44 (f := .glo "law") rfl)⟩
  b_len := He.free_ok X G (c.fact 45 (f := .free "len") rfl)
  b_isinstance := He.free_ok X G (c.fact 46 (f := .free "isinstance") rfl)
  b_int := He.free_ok X G (c.fact 47 (f := .free "int") rfl)
  b_bool := He.free_ok X G (c.fact 48 (f := .free "bool") rfl)
  b_tuple := He.free_ok X G (c.fact 49 (f := .free "tuple") rfl)
  b_all := He.free_ok X G (c.fact 50 (f := .free "all") rfl)
  b_range := He.free_ok X G (c.fact 51 (f := .free "range") rfl)
  b_abs := He.free_ok X G (c.fact 52 (f := .free "abs") rfl)
  b_sum := He.free_ok X G (c.fact 53 (f := .free "sum") rfl)
  b_min := He.free_ok X G (c.fact 54 (f := .free "min") rfl)
  b_enumerate := He.free_ok X G (c.fact 55 (f := .free "enumerate") rfl)
  b_sorted := He.free_ok X G (c.fact 56 (f := .free "sorted") rfl)
  most := He.int_ok X G (c.fact 57 (f := .int "MOST_PLACES" 10) rfl)
end Sg
set_option maxHeartbeats 4000000
namespace Sg
open PySem PySem.Spec PyProof.Rows L2 Evl
/-- a def of the text keeps its promise -/
structure Cal (P : Program) (w : World) (K : PySem.W.Frag) (mg : Str → Option Value) (base : Heap) (k : Nat) (x : Str) (ps : List Str) (sp : Sp) : Prop where
  ex : ∃ (f : Addr) (fd : FuncData), FnOk P w K mg base CX0 k f fd ps sp ∧ mg x = some (.ref f) ∧ PySem.W.keepIn K (.ref f) = true ∧ Binds K fd ps []
theorem Cal.pe {X : Cx} {k j : Nat} {x : Str} {ps : List Str} {sp : Sp} {p pos : Pos} {e : Expr} {es : List Expr} {t : TA} (C : Cal X.prog X.w X.K X.mg X.base k x ps sp) (hr : Room j X.A) (hg : Gl X x) (ha : PA X (e :: es) t) (hj : k ≤ j := by decide)
    (hdb : (x == ("__debug__" : Str)) = false := by decide +kernel) (he : starEach (e :: es) X.env = (false, eval e X.env) :: starEach es X.env := by rfl) (hpl : (backTo pos (starEach es X.env)).any (·.1) = false := by rfl) :
    PE X (.Call (.Name x p) (e :: es) [] pos) (tCall sp [] E0 t) := by
  obtain ⟨f, fd, F, hm, kp, b⟩ := C.ex
  exact pe_call F (hr.mono hj) hg hm kp b .nil pass0 ha hdb he hpl
end Sg
set_option maxHeartbeats 4000000
namespace PySem
namespace Sgx
open PyProof.Rows
section
variable {prog : Program} {w : World} {A : Around} {E : Value → Shared → Prop} {s : Shared}
/-- sorted of a tuple of ints: a new list behind what gathering the items leaves -/
theorem sorted_intsT {l : Addr} {vs : List Value} {ns : List Int} {Q : Value → Shared → Prop} (hl : s.heap.IsTuple l vs.toArray) (hI : IntsAre vs ns) (h64 : vs.length < 64)
    (h : ∀ (hp : Heap), (∀ b o, s.heap.get? b = some o → hp.get? b = some o) → ∀ (out : Array Value) (ms : List Int), IntsAre out.toList ms → ms.Perm ns → Q (.ref hp.objs.size) { s with heap := sortedHeap (hp.push (seqObj "list" vs.toArray 0)) hp.objs.size vs out }) :
    wpAny (model prog w) A (call (.builtin "sorted") [.ref l]) Q E s := by
  obtain ⟨ob, hob, hcl, ep, hda⟩ := id hl
  refine Calls.call_function_entry kind_sorted plain_sorted entry_sorted (args_sorted1 _) ?_
  unfold Builtin.«sorted»
  refine wpAny_bind (m := checkCount "sorted" 1 1 _) (wpAny_pure (wpAny_bind (wpAny_collect_seq l (.inr rfl) hob hcl hda (fun hp hk => ?_) (by rw [List.size_toArray]; exact L2.small64 h64))))
  refine wpAny_bind (wpAny_newList (wpAny_bind ?_))
  have hat : (hp.push (seqObj "list" vs.toArray 0)).get? hp.objs.size = some (seqObj "list" vs.toArray 0) := Heap.get?_push_size _ rfl
  exact wpAny_holding (wpAny_call_entry slot_list_sort ⟨_, hat, rfl⟩ entry_list_sort (list_sort_tree hat hI h64 fun out ms m1 m2 _ => ⟨_, rfl, wpAny_pure ⟨_, rfl, h hp hk out ms m1 m2⟩⟩) (args_list_sort _))
end
end Sgx
end PySem
namespace Sg
open PySem PySem.Spec PyProof.Rows L2 Evl
section
variable {X : Cx}
/-! ### sorted(tuple of ints) -/
def rSortT (K : PySem.W.Frag) : List V → Hp → VK → Prop := fun vs H Q => ∃ (a : Addr) (ns : List Int), vs = [V.ref a] ∧ SqT K H a (ns.map V.int) ∧ ns.length < 64 ∧ ∀ (ms : List Int) (p : Addr), ms.Perm ns → H p = none → Q (.ref p) (upd H p (.lst (ms.map V.int)))
theorem cr_sortT : CallR X (.builtin "sorted") (rSortT X.K) := fun pins s σ H vs us Q I r ⟨a, ns, ev, hs, h64, q⟩ => by
  subst ev
  obtain ⟨its, rv, hl, _⟩ := I.tuple hs
  have hi := rv.ints
  rw [Vals.ref1 r]
  refine PySem.Sgx.sorted_intsT hl hi (by rw [hi.length]; exact h64) fun hp hk out ms m1 m2 => ?_
  have I1 : Inv X pins σ H { s with heap := hp } := I.kept (t' := s.toks) hk
  obtain ⟨ep, hat⟩ := PyProof.Rows.sortedHeap_at (h := hp.push (seqObj "list" its.toArray 0)) (a := hp.objs.size) (out := out) (Heap.get?_push_size _ rfl)
  refine ⟨.ref hp.objs.size, upd H hp.objs.size (.lst (ms.map V.int)), I1.laid (t' := s.toks) (fun b o e => ?_) (Nat.le_refl _) ⟨?_, out.toList, ep, vals_of_ints m1, hat⟩, rfl, q ms _ m2 (I1.hok.fresh (Nat.le_refl _))⟩
  · have hlt : b < hp.objs.size := Heap.lt_size e
    rw [PyProof.Rows.sortedHeap_old (Nat.ne_of_lt hlt) (by rw [size_push']; exact Nat.lt_succ_of_lt hlt)]
    exact Heap.get?_push_of_some _ e
  · rw [List.length_map, m2.length_eq]
    exact small64 h64
/-! ### range(n) as a value, walked -/
theorem cr_range1 : CallR X (.type "range") (fun vs H Q => ∃ j, vs = [V.int j] ∧ ∀ p, H p = none → Q (.ref p) (upd H p (.rng 0 j))) := by
  intro pins s σ H vs us Q I r h
  obtain ⟨j, rfl, q⟩ := h
  obtain ⟨u, rfl, ru⟩ := vals1 r
  obtain ⟨t, rfl⟩ := ru
  refine call_range_1 ⟨.ref s.heap.objs.size, upd H s.heap.objs.size (.rng 0 j), I.laid (t' := s.toks + 1 + 1) (fun b o e => Heap.get?_push_of_some _ e) (Nat.le_refl _) ?_, rfl, q _ (I.hok.fresh (Nat.le_refl _))⟩
  exact ⟨s.toks, t, s.toks + 1, Heap.get?_push_size _ rfl⟩
def iRngV (te : TE) : TI := fun σ H R => te σ H fun x H1 => ∃ (a : Addr) (n : Nat), x = .ref a ∧ H1 a = some (.rng 0 (n : Int)) ∧ n ≤ 1000 ∧ R (Itr 0 n) H1
theorem pi_rngv {tg e : Expr} {te : TE} (he : PE X e te) : PI X tg e (iRngV te) := by
  refine ⟨fun pins s σ H R I h => ?_⟩
  refine thn (he.run pins s σ H _ I h) fun v s1 ⟨x, H1, I1, r1, q1⟩ => ?_
  obtain ⟨a, n, ex, ha, hn, q⟩ := q1
  subst ex
  cases r1
  obtain ⟨t, u, z, ho⟩ := I1.hok a _ ha
  refine wpAny_pyIter_range (show IsRange s1.heap a 0 (n : Int) 1 t u z from ho) (small_one (by omega) (by omega) (by omega) (by omega)) ?_
  refine ⟨s1.heap.objs.size, [s1.heap.objs.size], _, _, H1, rfl, I1.kept (t' := s1.toks) fun b o e => Heap.get?_push_of_some _ e, turn_range _ 0 n, ?_, fun b hb => ?_, q⟩
  · have e1 : (0 : Int) + ((0 : Nat) : Int) * 1 = 0 := by simp
    have e2 : ((n : Nat) : Int) - ((0 : Nat) : Int) = Builtin.Range.rangeSize 0 (n : Int) 1 := by rw [rangeSize_one]; split <;> omega
    show IsRangeIter _ _ ((0 : Int) + ((0 : Nat) : Int) * 1) (((n : Nat) : Int) - ((0 : Nat) : Int)) 1
    rw [e1, e2]
    exact Heap.get?_push_size _ rfl
  · have e : b = s1.heap.objs.size := by simpa using hb
    subst e
    exact I1.fpOk (Nat.le_refl _) (I1.hok.fresh (Nat.le_refl _))
/-! ### (sign,) * 1 -/
theorem tuple_mul1 (l : Addr) (items : Array Value) (n : Nat) (dd : Option Addr) (sl : Array (Option Value)) (u : Tok) (hs : items.size ≤ 1000) :
    Meets (Builtin.«tuple.__mul__» ⟨[.ref l, .int 1 u], []⟩) (fun _ R s => s.heap.get? l = some { cls := .type "tuple", dict := dd, data := .seq items n, slots := sl } ∧
      R (.ok (.ret (Value.ref l))) s) :=
  .of_wp fun prog w A R s h => by
    obtain ⟨hp, g, d, tk, os⟩ := s
    obtain ⟨hl, h⟩ := h
    have f1 := AutoSeq1.idx_int
    have hl2 : (Shared.mk hp g d tk os).TypeIs (.ref l) "tuple" := ⟨_, hl, rfl⟩
    wp_walk using AutoSeq1.wpAny_loadPart' hl
    exact ⟨_, rfl, h⟩
def rRepS (K : PySem.W.Frag) : R2 := fun x y H Q => ∃ l k v, x = .ref l ∧ y = .int k ∧ SqT K H l [v] ∧ 1 ≤ k ∧ k ≤ 1000 ∧ (k = 1 → Q (.ref l) H) ∧ (2 ≤ k → ∀ p, H p = none → Q (.ref p) (upd H p (.tup (List.replicate k.toNat v))))
theorem flat_rep (n : Nat) (v : V) : (List.replicate n [v]).flatten = List.replicate n v := by
  induction n with
  | zero => rfl
  | succ n ih => rw [List.replicate_succ, List.flatten_cons, ih]; rfl
theorem op_repS : OpR X (binaryOp .Mult) (rRepS X.K) := by
  intro pins s σ H x y v u Q I rx ry h
  obtain ⟨l, k, a, rfl, rfl, hT, h1, h2, q1, q2⟩ := h
  by_cases hk : k = 1
  · subst hk
    cases rx
    obtain ⟨t, rfl⟩ := ry
    obtain ⟨its, r, ⟨⟨cls, dd, data, sl⟩, ho, hc, n, hd⟩, hs⟩ := I.tuple hT
    simp only at hc hd
    subst hc hd
    have hle : its.length = 1 := r.length.symm
    refine wpAny_binaryOp_repeat_ref (T := "tuple") (U := "int") (by decide) ⟨_, ho, rfl⟩ (fun s' => typeIs_int s' 1 t) noFill_tuple_mul F.fills_int_mul F.slot_int_rmul repeat_tuple F.slot_int_index.lookup
      (call_meets F.slot_int_rmul (typeIs_int s 1 t) F.entry_int_rmul (F.args_int_rmul_2 _ _) (int_rmul_tuple 1 t l its.toArray n dd sl)
        ⟨ho, rfl, ⟨_, ho, rfl⟩, call_meets F.slot_tuple_mul ⟨_, ho, rfl⟩ F.entry_tuple_mul (F.args_tuple_mul_2 _ _) (tuple_mul1 l its.toArray n dd sl t (by rw [List.size_toArray, hle]; decide)) ⟨ho, ?_⟩⟩)
    exact ⟨.ref l, H, I, rfl, q1 rfl⟩
  · refine op_repT pins s σ H _ _ v u Q I rx ry ⟨l, k, [a], rfl, rfl, hT, by simp, by omega, h2, by show 1 ≤ 1000; decide, fun p hp => ?_⟩
    rw [flat_rep]
    exact q2 (by omega) p hp
/-! ### slices backwards -/
theorem pick_back {its : List Value} (h : its ≠ []) : slicePick its.toArray (some (-2)) none (some (-1)) = its.dropLast.reverse.toArray := by
  have hn : 0 < its.length := List.length_pos_iff.mpr h
  have hb : sliceBounds (some (-2)) none (some (-1)) its.length = (((its.length - 1 : Nat) : Int) - 1, -1, -1) := by
    unfold sliceBounds
    simp only [Option.getD_some]
    refine Prod.ext ?_ (Prod.ext ?_ rfl)
    · show (if (-1 : Int) > 0 then max 0 (min (if (-2 : Int) < 0 then -2 + (its.length : Int) else -2) (its.length : Int)) else max (-1) (min (if (-2 : Int) < 0 then -2 + (its.length : Int) else -2) ((its.length : Int) - 1))) = _
      rw [if_neg (by decide), if_pos (by decide)]
      omega
    · show (if (-1 : Int) > 0 then (its.length : Int) else -1) = -1
      rw [if_neg (by decide)]
  unfold slicePick
  rw [List.size_toArray, hb]
  show ((sliceRange (((its.length - 1 : Nat) : Int) - 1) (-1) (-1)).filterMap (its.toArray[·]?)).toArray = _
  rw [PySem.W.krv_sliceRange, PySem.W.krv_range, List.filterMap_reverse]
  congr 2
  have e := PySem.W.krv_all (its.dropLast.toArray)
  rw [List.size_toArray, List.length_dropLast] at e
  rw [show its.dropLast.toArray.toList = its.dropLast by simp] at e
  rw [← e]
  have e2 : ∀ l : List Nat, (∀ i ∈ l, i < its.length - 1) → List.filterMap (fun i => its.toArray[i]?) l = List.filterMap (fun i => its.dropLast.toArray[i]?) l := by
    intro l
    induction l with
    | nil => intro _; rfl
    | cons a l ih =>
      intro hl
      have h1 := hl a List.mem_cons_self
      have h2 : its.toArray[a]? = its.dropLast.toArray[a]? := by
        simp only [List.getElem?_toArray]
        rw [List.getElem?_dropLast, if_pos h1]
      rw [List.filterMap_cons, List.filterMap_cons, h2, ih fun i hi => hl i (List.mem_cons_of_mem _ hi)]
  exact e2 _ fun i hi => List.mem_range.mp hi
def tBackL (K : PySem.W.Frag) (te : TE) (tl : TO) : TE := fun σ H Q => te σ H fun x H1 => tl σ H1 fun l H2 => ∃ a xs, x = .ref a ∧ l = some (-2) ∧ SqL K H2 a xs ∧ xs ≠ [] ∧ ∀ p, H2 p = none → Q (.ref p) (upd H2 p (.lst xs.dropLast.reverse))
theorem pe_backL {e lo : Expr} {te : TE} {tl : TO} {k : Nat} {p1 p2 p3 pos : Pos} (he : PE X e te) (hl : PO X (some lo) tl) : PE X (.Subscript e (.Slice (some lo) none (some (.UnaryOp .USub (.Constant (.int 1) k p1) p2)) p3) pos) (tBackL X.K te tl) := by
  refine ⟨fun pins s σ H Q I h => ?_⟩
  refine Subscript_ (thn (he.run pins s σ H _ I h) fun v s1 ⟨x, H1, I1, r1, q1⟩ => ?_)
  have hst : PO X (some (.UnaryOp .USub (.Constant (.int 1) k p1) p2)) (tPart (tUn (rU fun i => .int (-i)) (tC (.int 1)))) := po_some (pe_un un_neg pe_int)
  refine wpAny_Slice (thn (hl.run pins s1 σ H1 _ I1 q1) fun vl s2 ⟨l, H2, I2, pl, q2⟩ => ?_)
  obtain ⟨a, xs, ex, el, hx, hne, q⟩ := q2
  subst ex el
  cases r1
  refine thn (po_none.run pins s2 σ H2 (fun o H3 => o = none ∧ H3 = H2) I2 ⟨rfl, rfl⟩) fun vu s3 ⟨u, H3, I3, pu, eu, e3⟩ => ?_
  subst eu e3
  refine thn (hst.run pins s3 σ H3 (fun o H4 => o = some (-1) ∧ H4 = H3) I3 ⟨1, rfl, -1, rfl, rfl, rfl⟩) fun vs s4 ⟨o, H4, I4, ps, eo, e4⟩ => ?_
  subst eo e4
  have I5 : Inv X pins σ H4 { s4 with heap := s4.heap.push { cls := .type "slice", data := .fields #[vl, vu, vs] } } := I4.kept (t' := s4.toks) fun b ob q => Heap.get?_push_of_some _ q
  obtain ⟨its, r, ht, hz⟩ := I5.list hx
  have hlen := r.length
  have hne2 : its ≠ [] := fun z => hne (by rw [z] at hlen; exact List.eq_nil_of_length_eq_zero hlen)
  show wpAny (model X.prog X.w) X.A (subscriptTail e (.Slice (some lo) none (some (.UnaryOp .USub (.Constant (.int 1) k p1) p2)) p3) (.ref a) (.ref s4.heap.objs.size)) (EP X pins σ Q) X.xe { s4 with heap := s4.heap.push { cls := .type "slice", data := .fields #[vl, vu, vs] } }
  refine tail_any (ops := [.ref a, .ref s4.heap.objs.size]) ht.isList.typeIs (PySem.slot_list_getitem.lookup) ?_ (by with_unfolding_all rfl)
  refine wpAny_getItem_list_slice ht.isList (Heap.IsSliceOf.new _ vl vu vs) pl pu ps (by decide) ?_ (by rw [List.size_toArray]; omega)
  rw [pick_back hne2]
  refine ⟨.ref _, _, I5.laid (t' := s4.toks) (o := .lst xs.dropLast.reverse) (fun b ob q => Heap.get?_push_of_some _ q) (Nat.le_refl _) ?_, rfl, q _ (I5.hok.fresh (Nat.le_refl _))⟩
  exact ⟨by rw [List.length_reverse, List.length_dropLast]; omega, _, 0, r.dropLast.reverse, Heap.get?_push_size _ rfl⟩
/-- what an index picks of values is again values -/
theorem vals_pick {xs : List V} {its : List Value} (r : Vals xs its) (f : Nat → Nat) : ∀ l : List Nat, Vals (l.filterMap fun m => xs[f m]?) (l.filterMap fun m => its.toArray[f m]?)
  | [] => .nil
  | m :: l => by
    have ih := vals_pick r f l
    rw [List.filterMap_cons, List.filterMap_cons]
    simp only [List.getElem?_toArray] at ih ⊢
    cases e : xs[f m]? with
    | none =>
      have e2 := Vals.none_of r e
      rw [e2]
      exact ih
    | some x =>
      obtain ⟨u, hu, ru⟩ := Vals.get r e
      rw [hu]
      exact .cons ru ih
def tBackT (K : PySem.W.Frag) (te : TE) (th : TO) : TE := fun σ H Q => te σ H fun x H1 => th σ H1 fun l H2 => ∃ a xs, x = .ref a ∧ l = some 0 ∧ SqT K H2 a xs ∧ 2 ≤ xs.length ∧ ∀ p ys, ys.length ≤ xs.length → H2 p = none → Q (.ref p) (upd H2 p (.tup ys))
theorem pe_backT {e hi : Expr} {te : TE} {th : TO} {k : Nat} {p1 p2 p3 pos : Pos} (he : PE X e te) (hu : PO X (some hi) th) : PE X (.Subscript e (.Slice none (some hi) (some (.UnaryOp .USub (.Constant (.int 1) k p1) p2)) p3) pos) (tBackT X.K te th) := by
  refine ⟨fun pins s σ H Q I h => ?_⟩
  refine Subscript_ (thn (he.run pins s σ H _ I h) fun v s1 ⟨x, H1, I1, r1, q1⟩ => ?_)
  have hst : PO X (some (.UnaryOp .USub (.Constant (.int 1) k p1) p2)) (tPart (tUn (rU fun i => .int (-i)) (tC (.int 1)))) := po_some (pe_un un_neg pe_int)
  refine wpAny_Slice (thn (po_none.run pins s1 σ H1 (fun o H3 => o = none ∧ H3 = H1) I1 ⟨rfl, rfl⟩) fun vl s2 ⟨l, H2, I2, pl, el, e2⟩ => ?_)
  subst el e2
  refine thn (hu.run pins s2 σ H2 _ I2 q1) fun vu s3 ⟨u, H3, I3, pu, q3⟩ => ?_
  obtain ⟨a, xs, ex, eu, hx, hn, q⟩ := q3
  subst ex eu
  cases r1
  refine thn (hst.run pins s3 σ H3 (fun o H4 => o = some (-1) ∧ H4 = H3) I3 ⟨1, rfl, -1, rfl, rfl, rfl⟩) fun vs s4 ⟨o, H4, I4, ps, eo, e4⟩ => ?_
  subst eo e4
  have I5 : Inv X pins σ H4 { s4 with heap := s4.heap.push { cls := .type "slice", data := .fields #[vl, vu, vs] } } := I4.kept (t' := s4.toks) fun b ob q => Heap.get?_push_of_some _ q
  obtain ⟨its, r, ht, hz⟩ := I5.tuple hx
  have hlen := r.length
  have hs : (s4.heap.push { cls := .type "slice", data := .fields #[vl, vu, vs] }).IsSliceOf s4.heap.objs.size vl vu vs := Heap.IsSliceOf.new _ vl vu vs
  show wpAny (model X.prog X.w) X.A (subscriptTail e (.Slice none (some hi) (some (.UnaryOp .USub (.Constant (.int 1) k p1) p2)) p3) (.ref a) (.ref s4.heap.objs.size)) (EP X pins σ Q) X.xe { s4 with heap := s4.heap.push { cls := .type "slice", data := .fields #[vl, vu, vs] } }
  refine tail_any (ops := [.ref a, .ref s4.heap.objs.size]) ht.typeIs (PyProof.Rows.slot_tuple_getitem.lookup) ?_ (by with_unfolding_all rfl)
  obtain ⟨os, hos, hcs, hds⟩ := id hs
  have hTs : ({ s4 with heap := s4.heap.push { cls := .type "slice", data := .fields #[vl, vu, vs] } } : Shared).TypeIs (.ref s4.heap.objs.size) "slice" := ⟨os, hos, hcs⟩
  unfold getItem
  try with_reducible refine wpAny_holding ?_
  first | refine wpAny_bind (wpAny_pure ?_) | skip
  refine wpAny_bind (wpAny_sequenceKey ht.typeIs (by decide) ?_)
  refine wpAny_bind (wpAny_callSpecial?_slot (name := Str.ofString "__getitem__") ht.typeIs PyProof.Rows.slot_tuple_getitem
    (wpAny_call_entry PyProof.Rows.slot_tuple_getitem ht.typeIs entry_tuple_getitem ?_ (args_tuple_getitem _ _)))
  show wpAny _ _ (Builtin.Tuple.tupleItemsOf (.ref a) >>= _) _ _ _
  refine wpAny_bind (tupleItemsOf_ ht ?_)
  refine wpAny_bind (wpAny_typeOf hTs ?_)
  rw [if_pos (by decide)]
  have hsz : its.toArray.size = xs.length := by rw [List.size_toArray]; exact hlen.symm
  have ap : ∀ {E : Value → Shared → Prop} {Q : Int × Int × Nat → Shared → Prop}, Q (((xs.length : Nat) : Int) - 1, -1, xs.length - 1) { s4 with heap := s4.heap.push { cls := .type "slice", data := .fields #[vl, vu, vs] } } →
      wpAny (model X.prog X.w) X.A.in1 (Builtin.Slice.sliceApplied (.ref s4.heap.objs.size) (pure ((its.toArray.size : Nat) : Int))) Q E { s4 with heap := s4.heap.push { cls := .type "slice", data := .fields #[vl, vu, vs] } } := by
    intro E Q q
    unfold Builtin.Slice.sliceApplied Builtin.Slice.sliceFields
    refine wpAny_bind (wpAny_bind (wpAny_field hos hds (x := vl) rfl (wpAny_bind (wpAny_field hos hds (x := vu) rfl (wpAny_bind (wpAny_field hos hds (x := vs) rfl (wpAny_pure ?_)))))))
    refine wpAny_bind (HT.slicePart_ ps ?_)
    show wpAny _ _ (if ((-1 : Int) == 0) = true then _ else _) _ _ _
    rw [if_neg (by decide)]
    refine wpAny_bind (HT.slicePart_ pl (wpAny_bind (HT.slicePart_ pu (wpAny_bind (wpAny_pure ?_)))))
    show wpAny _ _ (match Builtin.Slice.sliceAdjust none (some 0) (-1) ((its.toArray.size : Nat) : Int) with | (lo, hi) => pure (lo, (-1 : Int), Builtin.Slice.slicePlaces lo hi (-1))) _ _ _
    have ea : Builtin.Slice.sliceAdjust none (some 0) (-1) ((its.toArray.size : Nat) : Int) = (((xs.length : Nat) : Int) - 1, 0) := by
      rw [hsz]
      unfold Builtin.Slice.sliceAdjust
      simp only [show ((-1 : Int) < 0) by decide, if_true]
      refine Prod.ext rfl ?_
      show (if (0 : Int) < 0 then max ((0 : Int) + (xs.length : Int)) (-1) else min 0 ((xs.length : Int) - 1)) = 0
      rw [if_neg (by decide)]
      omega
    rw [ea]
    show wpAny _ _ (pure (((xs.length : Nat) : Int) - 1, (-1 : Int), Builtin.Slice.slicePlaces (((xs.length : Nat) : Int) - 1) 0 (-1))) _ _ _
    have ep : Builtin.Slice.slicePlaces (((xs.length : Nat) : Int) - 1) 0 (-1) = xs.length - 1 := by
      unfold Builtin.Slice.slicePlaces
      rw [if_neg (by decide), if_pos (by omega), show (- -1 : Int) = 1 by decide, Int.ediv_one]
      omega
    rw [ep]
    exact wpAny_pure q
  refine wpAny_bind (ap ?_)
  have hno : ¬ ((((xs.length : Nat) : Int) - 1 == 0 && (-1 : Int) == 1 && (xs.length - 1) == its.toArray.size) = true) := by
    rw [show ((-1 : Int) == 1) = false by decide, Bool.and_false, Bool.false_and]
    exact Bool.false_ne_true
  show wpAny _ _ (if (((xs.length : Nat) : Int) - 1 == 0 && (-1 : Int) == 1 && (xs.length - 1) == its.toArray.size) = true then _ else _) _ _ _
  rw [if_neg hno]
  have rv := vals_pick r (fun m => ((((xs.length : Nat) : Int) - 1) + (m : Int) * (-1)).toNat) (List.range (xs.length - 1))
  have rl : ((List.range (xs.length - 1)).filterMap fun (m : Nat) => its.toArray[((((xs.length : Nat) : Int) - 1) + (m : Int) * (-1)).toNat]?).length ≤ xs.length - 1 := by
    refine Nat.le_trans (List.length_filterMap_le _ _) ?_
    rw [List.length_range]
    exact Nat.le_refl _
  have htake : sizeOk (.seq ((List.range (xs.length - 1)).filterMap fun (m : Nat) => its.toArray[((((xs.length : Nat) : Int) - 1) + (m : Int) * (-1)).toNat]?).toArray) := by
    show (((List.range (xs.length - 1)).filterMap fun (m : Nat) => its.toArray[((((xs.length : Nat) : Int) - 1) + (m : Int) * (-1)).toNat]?).toArray).size ≤ sizeLine
    rw [List.size_toArray]
    omega
  have fin : EP X pins σ Q (.ref (s4.heap.push { cls := .type "slice", data := .fields #[vl, vu, vs] }).objs.size) { s4 with heap := (s4.heap.push { cls := .type "slice", data := .fields #[vl, vu, vs] }).push { cls := .type "tuple", data := .seq ((List.range (xs.length - 1)).filterMap fun (m : Nat) => its.toArray[((((xs.length : Nat) : Int) - 1) + (m : Int) * (-1)).toNat]?).toArray } } := by
    refine ⟨.ref _, _, I5.laid (t' := s4.toks) (o := .tup ((List.range (xs.length - 1)).filterMap fun (m : Nat) => xs[((((xs.length : Nat) : Int) - 1) + (m : Int) * (-1)).toNat]?)) (fun b ob q => Heap.get?_push_of_some _ q) (Nat.le_refl _) ?_, rfl, q _ _ (by rw [rv.length]; omega) (I5.hok.fresh (Nat.le_refl _))⟩
    exact ⟨by rw [rv.length]; omega, _, rv, IsTup.new _ _⟩
  first
    | exact wpAny_bind (m := Builtin.Tuple.tupleExact _) (wpAny_newObj_type (wpAny_pure ⟨_, rfl, wpAny_pure fin⟩) htake)
    | exact wpAny_bind (m := Builtin.Tuple.tupleExact _) (wpAny_newObj_type (wpAny_bind (wpAny_pure (wpAny_pure ⟨_, rfl, wpAny_pure fin⟩))) htake)
    | exact wpAny_bind (wpAny_bind (m := Builtin.Tuple.tupleExact _) (wpAny_newObj_type (wpAny_pure (wpAny_pure ⟨_, rfl, wpAny_pure fin⟩)) htake))
    | exact wpAny_bind (wpAny_bind (m := Builtin.Tuple.tupleExact _) (wpAny_newObj_type (wpAny_pure ⟨_, rfl, wpAny_pure fin⟩) htake))
end
end Sg
set_option maxHeartbeats 4000000
namespace PySem
namespace Sgx
open AutoSeq1 (wpAny_loadPart')
theorem meets_enumerate_newT (l : Addr) (items : Array Value) (n : Nat) (dct : Option Addr) (sl : Array (Option Value)) :
    Meets (Builtin.«enumerate.__new__» ⟨[.type "enumerate", .ref l], []⟩) (fun _ R s => s.heap.get? l = some { cls := .type "tuple", dict := dct, data := .seq items n, slots := sl } ∧
      R (.ok (.ret (.ref (s.heap.push { cls := .type "tuple_iterator", data := .fields #[.ref l, .int 0 0] }).objs.size)))
        { s with heap := (s.heap.push { cls := .type "tuple_iterator", data := .fields #[.ref l, .int 0 0] }).push { cls := .type "enumerate", data := .fields #[.none, .bool false, .ref s.heap.objs.size, rawInt 0, .none, .none] } }) :=
  .of_wp fun prog w A R s h => by
    obtain ⟨hp, g, d, tk, os⟩ := s; obtain ⟨hl, h⟩ := h
    have hsub := sub_enumerate
    have hL : Heap.IsTuple (Shared.heap ⟨hp, g, d, tk, os⟩) l items := ⟨_, hl, rfl, n, rfl⟩
    wp_walk using wpAny_loadPart' hl
    refine wpAny_stack_any fun st => wpAny_pure ?_
    split
    · rename_i c _ _ _ _ _
      cases (c == Value.type "enumerate")
      · wp_walk using wpAny_loadPart' hl, wpAny_pyIter_tuple hL
        exact ⟨_, rfl, h⟩
      · wp_walk using wpAny_loadPart' hl, wpAny_pyIter_tuple hL
        exact ⟨_, rfl, h⟩
    · wp_walk using wpAny_loadPart' hl, wpAny_pyIter_tuple hL
      exact ⟨_, rfl, h⟩
section
variable {prog : Program} {w : World} {A : Around} {E : Value → Shared → Prop} {s : Shared}
theorem call_enumerate_tuple {l : Addr} {items : Array Value} {Q : Value → Shared → Prop} (hL : s.heap.IsTuple l items)
    (h : ∀ h', IsEnum h' (s.heap.objs.size + 1) s.heap.objs.size 0 .none → h'.IsTupleIter s.heap.objs.size l 0 → h'.objs.size = s.heap.objs.size + 2 →
      (∀ b o, s.heap.get? b = some o → h'.get? b = some o) → Q (.ref (s.heap.objs.size + 1)) { s with heap := h' }) :
    wpAny (model prog w) A (call (.type "enumerate") [.ref l]) Q E s := by
  obtain ⟨⟨c, dct, dt, sl⟩, hl, hc, n, hd⟩ := hL
  replace hc : c = .type "tuple" := hc
  replace hd : dt = .seq items n := hd
  subst hc hd
  refine callType_new F.called_enumerate (by decide) (F.typeCall_enumerate_1 _) (F.newCall_enumerate_1 _) (fun obj => F.args_object_init_2 obj _) F.entry_enumerate_new
    (meets_enumerate_newT l items n dct sl) ⟨hl, ?_⟩
  have hz : (s.heap.push { cls := .type "tuple_iterator", data := .fields #[.ref l, .int 0 0] }).objs.size = s.heap.objs.size + 1 := Heap.size_push ..
  show _ ∧ _
  rw [hz]
  have he : IsEnum ((s.heap.push { cls := .type "tuple_iterator", data := .fields #[.ref l, .int 0 0] }).push
      { cls := .type "enumerate", data := .fields #[.none, .bool false, .ref s.heap.objs.size, rawInt 0, .none, .none] }) (s.heap.objs.size + 1) s.heap.objs.size 0 .none := by
    have := Heap.get?_push_size (s.heap.push { cls := .type "tuple_iterator", data := .fields #[.ref l, .int 0 0] })
      (o := { cls := .type "enumerate", data := .fields #[.none, .bool false, .ref s.heap.objs.size, rawInt 0, .none, .none] }) rfl
    rw [hz] at this; exact this
  refine ⟨⟨_, he, rfl⟩, h _ he ⟨_, Heap.get?_push_of_some _ (Heap.get?_push_size _ rfl), rfl, rfl⟩ (by rw [Heap.size_push, hz]) fun b o x => Heap.get?_push_of_some _ (Heap.get?_push_of_some _ x)⟩
end
end Sgx
end PySem
namespace Sg
open PySem PySem.Spec PyProof.Rows L2 Evl
/-- the tuple at a, each item in a new pair -/
def Itet (K : PySem.W.Frag) (a : Addr) : It :=
  ⟨fun i H => ∃ (xs : List V) (x : V), SqT K H a xs ∧ xs[i]? = some x, fun i H v H' => ∃ T x, v = .ref T ∧ H T = none ∧ H' = upd H T (.tup [.int (i : Nat), x]) ∧ ∀ xs, SqT K H a xs → xs[i]? = some x, fun i H => ∃ xs : List V, SqT K H a xs ∧ xs.length = i⟩
theorem turn_enumT {P : Program} {w : World} {K : PySem.W.Frag} {elts : List Expr} {kk : Nat} {tpos : Pos} (a e it : Addr) :
    Turn P w K (.Tuple elts kk tpos) (Itet K a) [e, it] e (fun i h => (∃ old, IsEnum h e it ((i : Nat) : Int) old) ∧ h.IsTupleIter it a i ∧ e ≠ it ∧ a ≠ it ∧ a ≠ e) where
  mem := by simp
  obj := fun i h st b hb => by
    obtain ⟨⟨old, he⟩, ⟨o, ho, hc, hd⟩, _⟩ := st
    have e' : b = e ∨ b = it := by simpa using hb
    rcases e' with z | z
    · rw [z]; exact ⟨_, he, fun v q => nomatch q⟩
    · rw [z]; exact ⟨o, ho, fun v q => by rw [hd] at q; cases q⟩
  keep := fun i h h' st k => let ⟨⟨old, he⟩, hi, hne⟩ := st; ⟨⟨old, k e (by simp) _ he⟩, hi.at fun o q => k it (by simp) o q, hne⟩
  item := by
    intro X hP hw hK hc i pins s σ H E I hf st hg
    subst hP hw hK
    obtain ⟨⟨old, he⟩, hit, hne, hai, hae⟩ := st
    obtain ⟨xs, x, hq, hx⟩ := hg
    obtain ⟨its, rv, p, hz⟩ := I.tuple hq
    obtain ⟨u, hu, ru⟩ := rv.get hx
    have hel : e < s.heap.objs.size := Heap.lt_size he
    have hil : it < s.heap.objs.size := by obtain ⟨_, q, _⟩ := hit; exact Heap.lt_size q
    have hd := I.ok.hd hc
    have hlt : i < its.toArray.size := by rw [List.size_toArray]; exact (List.getElem?_eq_some_iff.mp hu).1
    refine wpAny_pyNext_enum_itemD (Draws.tuple (A := X.A.in1) (by exact hd) it a hai its.toArray) he ⟨hit, p⟩ hlt hne (by simp [hne, Ne.symm hae]) fun y h' tk hy ho hit' hT hsz hk => ?_
    have ey : y = u := by
      rw [List.getElem?_toArray, hu] at hy
      exact (Option.some.inj hy).symm
    subst ey
    refine ⟨_, rfl, wpAny_letOwnedTupleGo_enum (s := { s with heap := h', toks := tk + 1 }) ho fun h'' he' sb => ?_⟩
    have hT2 : h''.get? s.heap.objs.size = some { cls := .type "tuple", data := .seq #[.int i tk, y] } := (sb.2 _ (Nat.ne_of_gt hel)).trans hT
    have new : ObjOk X.prog X.w (upd H s.heap.objs.size (.tup [.int (i : Nat), x])) h'' s.heap.objs.size (.tup [.int (i : Nat), x]) :=
      ⟨by show 2 ≤ sizeLine; decide, [.int i tk, y], .cons ⟨_, rfl⟩ (.cons ru .nil), ⟨_, hT2, rfl, _, rfl⟩⟩
    have I1 : Inv X pins σ (upd H s.heap.objs.size (.tup [.int (i : Nat), x])) { s with heap := h'', toks := tk + 1 } :=
      I.turnedNew (ch := [e, it]) (fun b ob hb q => (sb.2 b (fun z => hb (by simp [z]))).trans (hk b ob (fun z => hb (by simp [z])) (fun z => hb (by simp [z])) q)) hf (Nat.le_refl _) new
    refine ⟨.ref s.heap.objs.size, _, I1, rfl, ⟨_, x, rfl, I.hok.fresh (Nat.le_refl _), rfl, fun ys hy => by rw [I.tuple_inj hy hq]; exact hx⟩, ⟨⟨y, ?_⟩, hit'.1.at fun o q => (sb.2 it (Ne.symm hne)).trans q, hne, hai, hae⟩, fun b hb => ?_⟩
    · have e1 : ((i + 1 : Nat) : Int) = (i : Int) + 1 := by omega
      rw [e1]; exact he'
    · have hb' : b < s.heap.objs.size := by
        have e' : b = e ∨ b = it := by simpa using hb
        rcases e' with z | z
        · rw [z]; exact hel
        · rw [z]; exact hil
      rw [upd_ne (Nat.ne_of_lt hb')]
      exact (hf b hb).1
  done := by
    intro X hP hw hK hc i pins s σ H E I hf st hg
    subst hP hw hK
    obtain ⟨⟨old, he⟩, hit, hne, hai, hae⟩ := st
    obtain ⟨xs, hq, hx⟩ := hg
    obtain ⟨its, rv, p, hz⟩ := I.tuple hq
    obtain ⟨f0, f1, f2, f3, f4, f5⟩ := hf it (by simp)
    have hl := rv.length
    have hd := I.ok.hd hc
    have ei : i = its.toArray.size := by rw [List.size_toArray, ← hl]; exact hx.symm
    subst ei
    exact wpAny_pyNext_enum_endD (Draws.tuple (A := X.A.in1) (by exact hd) it a hai its.toArray) he ⟨hit, p⟩ fun h' eb => ⟨rfl, I.turned (t' := s.toks) (fun b o hb q => eb b o hb q) f0 f1 f3 f4 f5⟩
  self := fun A i s Q E st h => let ⟨⟨_, he⟩, _⟩ := st; wpAny_pyIter_enum he h
def iEnumT (K : PySem.W.Frag) (ta : TA) : TI := fun σ H R => ta σ H fun vs H1 => ∃ a xs, vs = [.ref a] ∧ SqT K H1 a xs ∧ R (Itet K a) H1
theorem pi_enumT {X : Cx} {e : Expr} {ta : TA} {p pos tpos : Pos} {elts : List Expr} {kk : Nat} (hg : Gl X "enumerate") (hm : X.mg "enumerate" = none) (ha : PA X [e] ta) (hs : starEach [e] X.env = [(false, eval e X.env)] := by rfl) :
    PI X (.Tuple elts kk tpos) (.Call (.Name "enumerate" p) [e] [] pos) (iEnumT X.K ta) := by
  refine ⟨fun pins s σ H R I h => ?_⟩
  refine Call_ (ld_blt I hg hm boot_enumerate (PyProof.Rows.callWith_type1 (thn (ha.run pos pins s σ H _ I h) fun us s1 ⟨vs, H1, I1, r1, q1⟩ => ?_) hs rfl))
  obtain ⟨a, xs, ex, hq, q⟩ := q1
  subst ex
  cases r1 with
  | cons r rr =>
    cases rr
    cases r
    obtain ⟨its, rv, p', hz⟩ := I1.tuple hq
    have hal : a < s1.heap.objs.size := p'.lt
    refine PySem.Sgx.call_enumerate_tuple p' fun h' he hit hsz hk => wpAny_pyIter_enum he ?_
    have I2 : Inv X pins σ H1 { s1 with heap := h' } := I1.kept (t' := s1.toks) hk
    refine ⟨s1.heap.objs.size + 1, [s1.heap.objs.size + 1, s1.heap.objs.size], _, _, H1, rfl, I2, turn_enumT a (s1.heap.objs.size + 1) s1.heap.objs.size, ⟨⟨.none, he⟩, hit, Nat.succ_ne_self _, Nat.ne_of_lt hal, Nat.ne_of_lt (Nat.lt_succ_of_lt hal)⟩, fun b hb => ?_, q⟩
    have e' : b = s1.heap.objs.size + 1 ∨ b = s1.heap.objs.size := by simpa using hb
    have hle : s1.heap.objs.size ≤ b := by
      rcases e' with z | z
      · rw [z]; exact Nat.le_add_right _ _
      · rw [z]; exact Nat.le_refl _
    exact I1.fpOk hle (I1.hok.fresh hle)
theorem walk_enumT {K : PySem.W.Frag} {a : Addr} {xs : List V} : Walk (Itet K a) xs.length (fun H => SqT K H a xs) (YPair (fun i => some (.int (i : Nat))) (fun i => xs[i]?)) := by
  refine ⟨fun i _ hi q => ⟨xs, xs[i], q, by simp [hi]⟩, fun _ q => ⟨xs, q, rfl⟩, fun i H v H' _ q y => ?_⟩
  obtain ⟨T, x, h1, h2, h3, h4⟩ := y
  exact ⟨T, .int (i : Nat), x, h1, h2, h3, rfl, h4 xs q⟩
end Sg
set_option maxHeartbeats 4000000
namespace Sg
open PySem PySem.Spec PyProof.Rows L2 Evl
/-! the rules with the written part K told by name (so that their readings do not depend on the block they stand in) -/
section
variable (K : PySem.W.Frag) {X : Cx}
theorem ixT (h : X.K = K := by rfl) : IxR X (rIxT K) := by subst h; exact ix_tup
theorem ixL (h : X.K = K := by rfl) : IxR X (rIxL K) := by subst h; exact ix_list
theorem inSq (h : X.K = K := by rfl) : OpR X (compareOp .In) (rIn K false) := by subst h; exact op_in_seq
theorem ninSq (h : X.K = K := by rfl) : OpR X (compareOp .NotIn) (rIn K true) := by subst h; exact op_notIn_seq
theorem eqD (hu : X.A.units + 64 < cLine) (h : X.K = K := by rfl) : OpR X (compareOp .Eq) (rEqD K) := by subst h; exact op_eqD hu
theorem neD (hu : X.A.units + 64 < cLine) (h : X.K = K := by rfl) : OpR X (compareOp .NotEq) (rNeD K) := by subst h; exact op_neD hu
theorem catA (h : X.K = K := by rfl) : OpR X (binaryOp .Add) (rCatA K) := by subst h; exact op_catA
theorem repS (h : X.K = K := by rfl) : OpR X (binaryOp .Mult) (rRepS K) := by subst h; exact op_repS
theorem clen (h : X.K = K := by rfl) : CallR X (.builtin "len") (rLenS K) := by subst h; exact call_len_seq
def rTupOf (K : PySem.W.Frag) : List V → Hp → VK → Prop := fun xs H Q => ∃ p ys, xs = [.ref p] ∧ ((SqL K H p ys ∧ ∀ l, H l = none → Q (.ref l) (upd H l (.tup ys))) ∨ (SqT K H p ys ∧ Q (.ref p) H))
theorem ctup (h : X.K = K := by rfl) : CallR X (.type "tuple") (rTupOf K) := by subst h; exact call_tuple_of
theorem call_all_ (hc : X.calm = true) (h : X.K = K := by rfl) : CallR X (.builtin "all") (rAll K) := by subst h; exact cr_all hc
theorem csum (hc : X.calm = true) (h : X.K = K := by rfl) : CallR X (.builtin "sum") (rSum K) := by subst h; exact cr_sum hc
theorem cmin (hc : X.calm = true) (h : X.K = K := by rfl) : CallR X (.builtin "min") (rMin K) := by subst h; exact cr_min hc
theorem cisi (h : X.K = K := by rfl) : CallR X (.builtin "isinstance") (rIsi K) := by subst h; exact call_isi
theorem csrt (h : X.K = K := by rfl) : CallR X (.builtin "sorted") (rSortT K) := by subst h; exact cr_sortT
theorem slL (h : X.K = K := by rfl) : SlR X (rSlL K) := by subst h; exact sl_list
theorem slT (h : X.K = K := by rfl) : SlR X (rSlA K) := by subst h; exact sl_tupA
theorem mtix (h : X.K = K := by rfl) : MtR X "list.index" (rIndex K) := by subst h; exact mt_index

theorem bPop {o : Expr} {to : TE} {apos pos : Pos} (ho : PE X o to) (hbase : attributeBase o "pop" X.env (eval o X.env) = eval o X.env := by rfl) (hline : (apos.endLine == pos.line) = true := by rfl) (h : X.K = K := by rfl) :
    PE X (.Call (.Attribute o "pop" apos) [] [] pos) (tBM0 K "list" rPop to) := by
  subst h
  exact pe_bm0 PySem.F.plainAttrs_list PySem.F.slot_list_pop PySem.F.type_list_pop mt_pop ho hbase hline
theorem bApp {o e : Expr} {to : TE} {t : TA} {apos pos : Pos} (ho : PE X o to) (ha : PA X [e] t) (hbase : attributeBase o "append" X.env (eval o X.env) = eval o X.env := by rfl)
    (hfew : ((backTo pos (starEach [e] X.env)).all (fun x => !x.1) && (backToKw pos (keywordEach [] X.env)).all (fun x => x.1.isSome)
      && decide (([e] : List Expr).length + ([] : List Keyword).length + (if ([] : List Keyword).isEmpty then 0 else 1) < 30)) = true := by rfl)
    (hline : (apos.endLine == pos.line) = true := by rfl) (hs : starEach [e] X.env = (false, eval e X.env) :: starEach [] X.env := by rfl) (hplain : (backTo pos (starEach [] X.env)).any (·.1) = false := by rfl) (h : X.K = K := by rfl) :
    PE X (.Call (.Attribute o "append" apos) [e] [] pos) (tBM K "list" rAppend to t) := by
  subst h
  exact pe_bm PySem.F.plainAttrs_list PySem.F.slot_list_append PySem.F.type_list_append mt_append ho ha hbase hfew hline hs hplain
theorem bIdx {o e : Expr} {to : TE} {t : TA} {apos pos : Pos} (ho : PE X o to) (ha : PA X [e] t) (hbase : attributeBase o "index" X.env (eval o X.env) = eval o X.env := by rfl)
    (hfew : ((backTo pos (starEach [e] X.env)).all (fun x => !x.1) && (backToKw pos (keywordEach [] X.env)).all (fun x => x.1.isSome)
      && decide (([e] : List Expr).length + ([] : List Keyword).length + (if ([] : List Keyword).isEmpty then 0 else 1) < 30)) = true := by rfl)
    (hline : (apos.endLine == pos.line) = true := by rfl) (hs : starEach [e] X.env = (false, eval e X.env) :: starEach [] X.env := by rfl) (hplain : (backTo pos (starEach [] X.env)).any (·.1) = false := by rfl) (h : X.K = K := by rfl) :
    PE X (.Call (.Attribute o "index" apos) [e] [] pos) (tBM K "list" (rIndex K) to t) := by
  subst h
  exact pe_bm PySem.F.plainAttrs_list PySem.F.slot_list_index PySem.F.type_list_index mt_index ho ha hbase hfew hline hs hplain
theorem piL {tg l : Expr} {tl : TE} (hl : PE X l tl) (h : X.K = K := by rfl) : PI X tg l (iList K tl) := by subst h; exact pi_list hl
theorem piT {tg l : Expr} {tl : TE} (hl : PE X l tl) (h : X.K = K := by rfl) : PI X tg l (iTup K tl) := by subst h; exact pi_tup hl
theorem piE {e : Expr} {ta : TA} {p pos tpos : Pos} {elts : List Expr} {kk : Nat} (hg : Gl X "enumerate") (hm : X.mg "enumerate" = none) (ha : PA X [e] ta) (h : X.K = K := by rfl) (hs : starEach [e] X.env = [(false, eval e X.env)] := by rfl) :
    PI X (.Tuple elts kk tpos) (.Call (.Name "enumerate" p) [e] [] pos) (iEnum K ta) := by subst h; exact pi_enum hg hm ha hs
theorem piET {e : Expr} {ta : TA} {p pos tpos : Pos} {elts : List Expr} {kk : Nat} (hg : Gl X "enumerate") (hm : X.mg "enumerate" = none) (ha : PA X [e] ta) (h : X.K = K := by rfl) (hs : starEach [e] X.env = [(false, eval e X.env)] := by rfl) :
    PI X (.Tuple elts kk tpos) (.Call (.Name "enumerate" p) [e] [] pos) (iEnumT K ta) := by subst h; exact pi_enumT hg hm ha hs
theorem pgT {es : List Expr} {k : Nat} {t : TGs} {n : Nat} {pos : Pos} (hc : X.calm = true) (h : PGs X es t) (hk : X.K = K := by rfl)
    (hn : (assignEach es X.env).length = n := by rfl) (hst : (assignEach es X.env).findIdx? (·.1) = none := by rfl) : PG X (.Tuple es k pos) (gTup K n t) := by subst hk; exact pg_tup hc h hn hst
def tTruth (K : PySem.W.Frag) (ta : TE) : TT := fun σ H Q => ta σ H fun x H' => ∃ k, TruV K x H' k ∧ Q k H'
theorem ptT {a : Expr} {ta : TE} (ha : PE X a ta) (he : ∀ whole, isTrue a X.env whole = (do let v ← whole; standAt a.pos; holding [v] (truthy v)) := by intro _; rfl) (h : X.K = K := by rfl) : PT X a (tTruth K ta) := by subst h; exact pt_truth ha he
theorem peOr {a b : Expr} {ta tb : TE} {rest : List Expr} {pos : Pos} (ha : PE X a ta) (hb : PE X (.BoolOp .Or (b :: rest) pos) tb) (h : X.K = K := by rfl) : PE X (.BoolOp .Or (a :: b :: rest) pos) (tOrT K ta tb) := by subst h; exact pe_orT ha hb
theorem peBL {e lo : Expr} {te : TE} {tl : TO} {k : Nat} {p1 p2 p3 pos : Pos} (he : PE X e te) (hl : PO X (some lo) tl) (h : X.K = K := by rfl) : PE X (.Subscript e (.Slice (some lo) none (some (.UnaryOp .USub (.Constant (.int 1) k p1) p2)) p3) pos) (tBackL K te tl) := by subst h; exact pe_backL he hl
theorem peBT {e hi : Expr} {te : TE} {th : TO} {k : Nat} {p1 p2 p3 pos : Pos} (he : PE X e te) (hu : PO X (some hi) th) (h : X.K = K := by rfl) : PE X (.Subscript e (.Slice none (some hi) (some (.UnaryOp .USub (.Constant (.int 1) k p1) p2)) p3) pos) (tBackT K te th) := by subst h; exact pe_backT he hu
end
end Sg
set_option maxHeartbeats 4000000
/-! evaluation rules in short: numbers, tests, webs, comprehensions -/
namespace Sg
open PySem PySem.Spec PyProof.Rows L2 Evl
section
variable {K : PySem.W.Frag} {σ : L2.St} {H H' : Hp} {ta tb tc te : TE} {i j : Int} {x y v : V}
theorem e_add (ha : Ev ta σ H (.int i)) (hb : Ev tb σ H (.int j)) : Ev (tOp (rI0 fun i j => .int (i + j)) ta tb) σ H (.int (i + j)) := ev_op ha hb rv_I0
theorem e_sub (ha : Ev ta σ H (.int i)) (hb : Ev tb σ H (.int j)) : Ev (tOp (rI0 fun i j => .int (i - j)) ta tb) σ H (.int (i - j)) := ev_op ha hb rv_I0
theorem e_xor (ha : Ev ta σ H (.int i)) (hb : Ev tb σ H (.int j)) : Ev (tOp (rI0 fun i j => .int (Builtin.bitXor i j)) ta tb) σ H (.int (Builtin.bitXor i j)) := ev_op ha hb rv_I0
theorem e_band (ha : Ev ta σ H (.int i)) (hb : Ev tb σ H (.int j)) : Ev (tOp (rI0 fun i j => .int (Builtin.bitAnd i j)) ta tb) σ H (.int (Builtin.bitAnd i j)) := ev_op ha hb rv_I0
theorem e_mul (ha : Ev ta σ H (.int i)) (hb : Ev tb σ H (.int j)) (h : CMul i j) : Ev (tOp (rI CMul fun i j => .int (i * j)) ta tb) σ H (.int (i * j)) := ev_op ha hb (rv_I h)
theorem e_mulX (ha : Ev ta σ H (.int i)) (hb : Ev tb σ H (.int j)) (h : CMulX i j) : Ev (tOp (rI CMulX fun i j => .int (i * j)) ta tb) σ H (.int (i * j)) := ev_op ha hb (rv_I h)
theorem e_mod (ha : Ev ta σ H (.int i)) (hb : Ev tb σ H (.int j)) (h : 0 < j) : Ev (tOp (rI (fun _ j => 0 < j) fun i j => .int (i % j)) ta tb) σ H (.int (i % j)) := ev_op ha hb (rv_I h)
theorem e_div (ha : Ev ta σ H (.int i)) (hb : Ev tb σ H (.int j)) (h : CDiv i j) : Ev (tOp (rI CDiv fun i j => .int (i / j)) ta tb) σ H (.int (i / j)) := ev_op ha hb (rv_I h)
theorem e_pow (ha : Ev ta σ H (.int i)) (hb : Ev tb σ H (.int j)) (h : CPow i j) : Ev (tOp (rI CPow fun i j => .int (i ^ j.toNat)) ta tb) σ H (.int (i ^ j.toNat)) := ev_op ha hb (rv_I h)
theorem e_shl (ha : Ev ta σ H (.int i)) (hb : Ev tb σ H (.int j)) (h : CPow i j) : Ev (tOp (rI CPow fun i j => .int (i * 2 ^ j.toNat)) ta tb) σ H (.int (i * 2 ^ j.toNat)) := ev_op ha hb (rv_I h)
theorem e_shr (ha : Ev ta σ H (.int i)) (hb : Ev tb σ H (.int j)) (h : 0 ≤ j) : Ev (tOp (rI (fun _ j => 0 ≤ j) fun i j => .int (i / 2 ^ j.toNat)) ta tb) σ H (.int (i / 2 ^ j.toNat)) := ev_op ha hb (rv_I h)
theorem e_neg (ha : Ev ta σ H (.int i)) : Ev (tUn (rU fun i => .int (-i)) ta) σ H (.int (-i)) := ev_un ha ru_neg
theorem e_lt (ha : Ev ta σ H (.int i)) (hb : Ev tb σ H (.int j)) : Ev (tOp (rI0 fun i j => .bl (decide (i < j))) ta tb) σ H (.bl (decide (i < j))) := ev_op ha hb rv_I0
theorem e_le (ha : Ev ta σ H (.int i)) (hb : Ev tb σ H (.int j)) : Ev (tOp (rI0 fun i j => .bl (decide (i ≤ j))) ta tb) σ H (.bl (decide (i ≤ j))) := ev_op ha hb rv_I0
theorem e_gt (ha : Ev ta σ H (.int i)) (hb : Ev tb σ H (.int j)) : Ev (tOp (rI0 fun i j => .bl (decide (j < i))) ta tb) σ H (.bl (decide (j < i))) := ev_op ha hb rv_I0
theorem e_ge (ha : Ev ta σ H (.int i)) (hb : Ev tb σ H (.int j)) : Ev (tOp (rI0 fun i j => .bl (decide (j ≤ i))) ta tb) σ H (.bl (decide (j ≤ i))) := ev_op ha hb rv_I0
theorem dI {i j : Int} : decide (V.int i = V.int j) = decide (i = j) := by
  by_cases h : i = j
  · subst h; simp
  · rw [decide_eq_false h, decide_eq_false fun q => h (V.int.inj q)]
theorem dB {i j : Bool} : decide (V.bl i = V.bl j) = decide (i = j) := by
  by_cases h : i = j
  · subst h; simp
  · rw [decide_eq_false h, decide_eq_false fun q => h (V.bl.inj q)]
theorem e_eq (ha : Ev ta σ H (.int i)) (hb : Ev tb σ H (.int j)) : Ev (tOp rEq ta tb) σ H (.bl (decide (i = j))) := by
  rw [← dI]
  exact ev_op ha hb (rv_eq rfl)
theorem e_ne (ha : Ev ta σ H (.int i)) (hb : Ev tb σ H (.int j)) : Ev (tOp rNe ta tb) σ H (.bl (!decide (i = j))) := by
  rw [← dI]
  exact ev_op ha hb (rv_ne rfl)
theorem e_eqB {a b : Bool} (ha : Ev ta σ H (.bl a)) (hb : Ev tb σ H (.bl b)) : Ev (tOp rEq ta tb) σ H (.bl (decide (a = b))) := by
  rw [← dB]
  exact ev_op ha hb (rv_eq rfl)
theorem e_neB {a b : Bool} (ha : Ev ta σ H (.bl a)) (hb : Ev tb σ H (.bl b)) : Ev (tOp rNe ta tb) σ H (.bl (!decide (a = b))) := by
  rw [← dB]
  exact ev_op ha hb (rv_ne rfl)
theorem e_isN (ha : Ev ta σ H x) : Ev (tOp (fun x y H Q => y = .non ∧ Q (.bl (decide (x = .non))) H) ta (tC .non)) σ H (.bl (decide (x = .non))) :=
  ev_op ha ev_c fun H1 _ _ q => ⟨rfl, q H1 (Ex.refl H1)⟩
theorem e_notN (ha : Ev ta σ H x) : Ev (tOp (fun x y H Q => y = .non ∧ Q (.bl (!decide (x = .non))) H) ta (tC .non)) σ H (.bl (!decide (x = .non))) :=
  ev_op ha ev_c fun H1 _ _ q => ⟨rfl, q H1 (Ex.refl H1)⟩
theorem e_isB {a b : Bool} (ha : Ev ta σ H (.bl a)) (hb : Ev tb σ H (.bl b)) : Ev (tOp rIsB ta tb) σ H (.bl (decide (a = b))) := ev_op ha hb fun H1 _ _ q => ⟨a, b, rfl, rfl, q H1 (Ex.refl H1)⟩
theorem e_notB {a b : Bool} (ha : Ev ta σ H (.bl a)) (hb : Ev tb σ H (.bl b)) : Ev (tOp rNotB ta tb) σ H (.bl (!decide (a = b))) := ev_op ha hb fun H1 _ _ q => ⟨a, b, rfl, rfl, q H1 (Ex.refl H1)⟩
/-- both ways of a conditional expression -/
theorem e_ifc {t : TT} {b : Bool} (h : EvT t σ H b) (h1 : Ev ta σ H x) (h2 : Ev tb σ H y) : Ev (tIf t ta tb) σ H (if b then x else y) := by
  cases b with
  | true => exact ev_if h (fun _ => h1) (fun z => by cases z)
  | false => exact ev_if h (fun z => by cases z) (fun _ => h2)
theorem e_abs (ha : Ev ta σ H (.int i)) : Ev (tCB (fun xs H Q => ∃ i, xs = [.int i] ∧ Q (.int (if i < 0 then -i else i)) H) (tCons ta tNil)) σ H (.int (if i < 0 then -i else i)) :=
  ev_cb (ea_cons ha ea_nil) fun H1 _ _ q => ⟨i, rfl, q H1 (Ex.refl H1)⟩
theorem e_intI (ha : Ev ta σ H (.int i)) : Ev (tCB (fun xs H Q => (∃ i, xs = [.int i] ∧ Q (.int i) H) ∨ ∃ k, xs = [.bl k] ∧ Q (.int (if k then 1 else 0)) H) (tCons ta tNil)) σ H (.int i) :=
  ev_cb (ea_cons ha ea_nil) fun H1 _ _ q => .inl ⟨i, rfl, q H1 (Ex.refl H1)⟩
theorem e_intB {b : Bool} (ha : Ev ta σ H (.bl b)) : Ev (tCB (fun xs H Q => (∃ i, xs = [.int i] ∧ Q (.int i) H) ∨ ∃ k, xs = [.bl k] ∧ Q (.int (if k then 1 else 0)) H) (tCons ta tNil)) σ H (.int (if b then 1 else 0)) :=
  ev_cb (ea_cons ha ea_nil) fun H1 _ _ q => .inr ⟨b, rfl, q H1 (Ex.refl H1)⟩
theorem e_chain {r r' : R2} {a b : Bool} {z : V} (ha : Ev ta σ H x) (hb : Ev tb σ H y) (hr : RV r x y H (.bl a)) (hc : Ev tc σ H z) (hr' : RV r' y z H (.bl b)) : Ev (tChain r r' ta tb tc) σ H (.bl (a && b)) := fun H1 e Q q =>
  ha H1 e _ fun H2 e2 => hb H2 (e.trans e2) _ fun H3 e3 => hr H3 ((e.trans e2).trans e3) _ fun H4 e4 => ⟨a, rfl, by
    cases a with
    | true =>
      refine iteT ?_
      exact hc H4 (((e.trans e2).trans e3).trans e4) _ fun H5 e5 => hr' H5 ((((e.trans e2).trans e3).trans e4).trans e5) Q fun H6 e6 => q H6 ((((e2.trans e3).trans e4).trans e5).trans e6)
    | false =>
      refine iteF ?_
      exact q H4 ((e2.trans e3).trans e4)⟩
theorem RV.I0 {g : Int → Int → V} : RV (rI0 g) (.int i) (.int j) H (g i j) := rv_I0
end
end Sg
set_option maxHeartbeats 4000000
/-! what an expression gives, by a word of it (EvP); loops and comprehensions over what stands still (Turns) -/
namespace Sg
open PySem PySem.Spec PyProof.Rows L2 Evl
def EvP (te : TE) (σ : L2.St) (H : Hp) (R : V → Hp → Prop) : Prop := ∀ H1, Ex H H1 → ∀ Q : VK, (∀ v H2, Ex H1 H2 → R v H2 → Q v H2) → te σ H1 Q
/-- a new list -/
def EvN (te : TE) (σ : L2.St) (H : Hp) (P : List V → Hp → Prop) : Prop := ∀ H1, Ex H H1 → ∀ Q : VK, (∀ p xs H2, H1 p = none → Ex H1 H2 → H2 p = some (.lst xs) → P xs H2 → Q (.ref p) H2) → te σ H1 Q
/-- arguments -/
def EvAP (ta : TA) (σ : L2.St) (H : Hp) (R : List V → Hp → Prop) : Prop := ∀ H1, Ex H H1 → ∀ Q : List V → Hp → Prop, (∀ vs H2, Ex H1 H2 → R vs H2 → Q vs H2) → ta σ H1 Q
def Mono {α : Type} (P : α → Hp → Prop) : Prop := ∀ x H H', Ex H H' → P x H → P x H'
/-- tuples stay (lists may change) -/
def ExT (H H' : Hp) : Prop := ∀ a xs, H a = some (.tup xs) → H' a = some (.tup xs)
theorem ExT.of {H H' : Hp} (e : Ex H H') : ExT H H' := fun a xs h => e a _ h
theorem ExT.trans {H H1 H2 : Hp} (a : ExT H H1) (b : ExT H1 H2) : ExT H H2 := fun x o h => b x o (a x o h)
theorem ExT.lst {H : Hp} {p : Addr} {xs ys : List V} (h : H p = some (.lst xs)) : ExT H (upd H p (.lst ys)) := fun a zs ha => by
  rw [upd_ne (fun e => by rw [e, h] at ha; cases ha)]
  exact ha
def MonoT {α : Type} (P : α → Hp → Prop) : Prop := ∀ x H H', ExT H H' → P x H → P x H'
theorem MonoT.m {α : Type} {P : α → Hp → Prop} (h : MonoT P) : Mono P := fun x H H' e => h x H H' (ExT.of e)
def TupP (P : List V → Hp → Prop) : V → Hp → Prop := fun v H => ∃ p xs, v = .ref p ∧ H p = some (.tup xs) ∧ P xs H
theorem TupP.mono {P : List V → Hp → Prop} (m : Mono P) : Mono (TupP P) := fun _ _ _ e ⟨p, xs, a, b, c⟩ => ⟨p, xs, a, e _ _ b, m _ _ _ e c⟩
section
variable {K : PySem.W.Frag} {σ : L2.St} {H H' : Hp} {ta tb tc te : TE} {i j : Int} {x y v : V} {R R' : V → Hp → Prop} {P : List V → Hp → Prop}
theorem EvP.mono (e : Ex H H') (h : EvP te σ H R) : EvP te σ H' R := fun H1 a Q q => h H1 (e.trans a) Q q
theorem EvN.mono (e : Ex H H') (h : EvN te σ H P) : EvN te σ H' P := fun H1 a Q q => h H1 (e.trans a) Q q
theorem EvP.of (h : Ev te σ H v) : EvP te σ H (fun w _ => w = v) := fun H1 e Q q => h H1 e Q fun H2 e2 => q v H2 e2 rfl
theorem EvP.imp (h : EvP te σ H R) (f : ∀ v H', Ex H H' → R v H' → R' v H') : EvP te σ H R' := fun H1 e Q q => h H1 e Q fun v H2 e2 r => q v H2 e2 (f v H2 (e.trans e2) r)
theorem EvN.imp {P' : List V → Hp → Prop} (h : EvN te σ H P) (f : ∀ xs H', Ex H H' → P xs H' → P' xs H') : EvN te σ H P' := fun H1 e Q q => h H1 e Q fun p xs H2 hp e2 h2 r => q p xs H2 hp e2 h2 (f xs H2 (e.trans e2) r)
theorem EvL.of {xs : List V} (h : EvN te σ H (fun ys _ => ys = xs)) : EvL te σ H xs := fun H1 e Q q => h H1 e Q fun p ys H2 hp e2 h2 r => by subst r; exact q p H2 hp e2 h2
theorem EvN.of {xs : List V} (h : EvL te σ H xs) : EvN te σ H (fun ys _ => ys = xs) := fun H1 e Q q => h H1 e Q fun p H2 hp e2 h2 => q p xs H2 hp e2 h2 rfl
/-- behind a call: what follows is asked of its value -/
theorem EvAP.nil : EvAP tNil σ H (fun vs _ => vs = []) := fun H1 _ _ q => q [] H1 (Ex.refl _) rfl
theorem EvAP.cons {tr : TA} {Rs : List V → Hp → Prop} (h : EvP te σ H R) (m : Mono R) (hr : EvAP tr σ H Rs) : EvAP (tCons te tr) σ H (fun vs H' => ∃ v ws, vs = v :: ws ∧ R v H' ∧ Rs ws H') := fun H1 e Q q =>
  h H1 e _ fun v H2 e2 r => hr H2 (e.trans e2) _ fun ws H3 e3 rs => q _ H3 (e2.trans e3) ⟨v, ws, rfl, m _ _ _ e3 r, rs⟩
theorem e_call {sp : Sp} {ta : TA} {Rs : List V → Hp → Prop} {E : XK} (h : EvAP ta σ H Rs) (hs : ∀ vs H1, Ex H H1 → Rs vs H1 → ∀ Q : VK, (∀ v H2, Ex H1 H2 → R v H2 → Q v H2) → sp vs H1 Q E) : EvP (tCall sp [] E ta) σ H R := fun H1 e Q q =>
  h H1 e _ fun vs H2 e2 r => by
    show sp (vs ++ []) H2 Q E
    rw [List.append_nil]
    exact hs vs H2 (e.trans e2) r Q fun v H3 e3 r3 => q v H3 (e2.trans e3) r3
/-- a call with plain arguments -/
theorem c_call {sp : Sp} {ta : TA} {vs : List V} {E : XK} (h : EvA ta σ H vs) (hs : ∀ H1, Ex H H1 → ∀ Q : VK, (∀ v H2, Ex H1 H2 → R v H2 → Q v H2) → sp vs H1 Q E) : EvP (tCall sp [] E ta) σ H R := fun H1 e Q q =>
  h H1 e _ fun H2 e2 => by
    show sp (vs ++ []) H2 Q E
    rw [List.append_nil]
    exact hs H2 (e.trans e2) Q fun v H3 e3 r3 => q v H3 (e2.trans e3) r3
theorem c_callN {sp : Sp} {ta : TA} {vs : List V} {E : XK} (h : EvA ta σ H vs) (hs : ∀ H1, Ex H H1 → ∀ Q : VK, (∀ p xs H2, H1 p = none → Ex H1 H2 → H2 p = some (.lst xs) → P xs H2 → Q (.ref p) H2) → sp vs H1 Q E) : EvN (tCall sp [] E ta) σ H P := fun H1 e Q q =>
  h H1 e _ fun H2 e2 => by
    show sp (vs ++ []) H2 Q E
    rw [List.append_nil]
    exact hs H2 (e.trans e2) Q fun p xs H3 hp e3 h3 r3 => q p xs H3 (fresh_back e2 hp) (e2.trans e3) h3 r3
/-- a call with plain arguments that gives a plain value -/
theorem c_callV {sp : Sp} {ta : TA} {vs : List V} {E : XK} (h : EvA ta σ H vs) (hs : ∀ H1, Ex H H1 → ∀ Q : VK, (∀ H2, Ex H1 H2 → Q v H2) → sp vs H1 Q E) : Ev (tCall sp [] E ta) σ H v := fun H1 e Q q =>
  h H1 e _ fun H2 e2 => by
    show sp (vs ++ []) H2 Q E
    rw [List.append_nil]
    exact hs H2 (e.trans e2) Q fun H3 e3 => q H3 (e2.trans e3)
/-- tuple(a new list) -/
theorem e_tupN (h : EvN te σ H P) (m : Mono P) : EvP (tCB (rTupOf K) (tCons te tNil)) σ H (TupP P) := fun H1 e Q q =>
  h H1 e _ fun p xs H2 hp e2 h2 r => ⟨p, xs, rfl, .inl ⟨sq_of h2, fun l hl => q _ _ (e2.trans (Ex.new hl)) ⟨l, xs, rfl, upd_same, m _ _ _ (Ex.new hl) r⟩⟩⟩
theorem e_tupL {a : Addr} {xs : List V} (h : Ev te σ H (.ref a)) (hx : H a = some (.lst xs)) : EvP (tCB (rTupOf K) (tCons te tNil)) σ H (TupP fun ys _ => ys = xs) := fun H1 e Q q =>
  h H1 e _ fun H2 e2 => ⟨a, xs, rfl, .inl ⟨sq_of ((e.trans e2) _ _ hx), fun l hl => q _ _ (e2.trans (Ex.new hl)) ⟨l, xs, rfl, upd_same, rfl⟩⟩⟩
theorem m_eq {xs : List V} : Mono (fun (ys : List V) (_ : Hp) => ys = xs) := fun _ _ _ _ h => h
/-- places, lengths -/
theorem e_ixT {p : Addr} {xs : List V} {k : Nat} (ha : Ev ta σ H (.ref p)) (hp : H p = some (.tup xs)) (hb : Ev tb σ H (.int i)) (hi : i = (k : Int)) (hx : xs[k]? = some v) : Ev (tOp (rIxT K) ta tb) σ H v := by
  subst hi
  exact ev_op ha hb (rv_ixT (st_of hp) (atI_nat hx))
theorem e_ixL {p : Addr} {xs : List V} {k : Nat} (ha : Ev ta σ H (.ref p)) (hp : H p = some (.lst xs)) (hb : Ev tb σ H (.int i)) (hi : i = (k : Int)) (hx : xs[k]? = some v) : Ev (tOp (rIxL K) ta tb) σ H v := by
  subst hi
  exact ev_op ha hb (rv_ixL (sq_of hp) (atI_nat hx))
theorem e_lenT {p : Addr} {xs : List V} (ha : Ev ta σ H (.ref p)) (hp : H p = some (.tup xs)) : Ev (tCB (rLenS K) (tCons ta tNil)) σ H (.int (xs.length : Int)) := fun H1 e Q q =>
  ha H1 e _ fun H2 e2 => ⟨p, xs, rfl, Or.inr (st_of ((e.trans e2) _ _ hp)), q H2 e2⟩
theorem e_lenL {p : Addr} {xs : List V} (ha : Ev ta σ H (.ref p)) (hp : H p = some (.lst xs)) : Ev (tCB (rLenS K) (tCons ta tNil)) σ H (.int (xs.length : Int)) := ev_len ha (sq_of hp)
theorem inV_ints (k : Int) : ∀ l : List Int, inV (.int k) (l.map V.int) = decide (k ∈ l)
  | [] => by simp [inV]
  | a :: l => by
    have ih := inV_ints k l
    unfold inV at ih ⊢
    rw [List.map_cons, List.any_cons, ih]
    have e : eqV (.int a) (.int k) = decide (a = k) := by
      show (a == k) = decide (a = k)
      by_cases h : a = k
      · subst h; simp
      · simp [h]
    rw [e]
    by_cases h : a = k
    · subst h; simp
    · have h' : ¬ k = a := fun z => h z.symm
      by_cases hm : k ∈ l <;> simp [h, h', hm]
theorem flat_ints : ∀ l : List Int, (l.map V.int).all flatV = true
  | [] => rfl
  | a :: l => by rw [List.map_cons, List.all_cons, flat_ints l]; rfl
theorem e_in {p : Addr} {l : List Int} (ha : Ev ta σ H (.int i)) (hb : Ev tb σ H (.ref p)) (hp : H p = some (.tup (l.map V.int))) : Ev (tOp (rIn K false) ta tb) σ H (.bl (decide (i ∈ l))) := by
  rw [← inV_ints]
  exact ev_op ha hb (rv_isT (st_of hp) rfl (flat_ints l))
theorem e_nin {p : Addr} {l : List Int} (ha : Ev ta σ H (.int i)) (hb : Ev tb σ H (.ref p)) (hp : H p = some (.tup (l.map V.int))) : Ev (tOp (rIn K true) ta tb) σ H (.bl (!decide (i ∈ l))) := by
  rw [← inV_ints]
  exact ev_op ha hb (rv_niT (st_of hp) rfl (flat_ints l))
/-- isinstance -/
theorem e_isi {t : Value} {n : String} {b : Bool} (ha : Ev ta σ H x) (ty : ∀ H1, Ex H H1 → TyX K H1 x t) (hk : PySem.W.kitOne K t (.type n) = some b) : Ev (tCB (rIsi K) (tCons ta (tCons (tC (.ty n)) tNil))) σ H (.bl b) := fun H1 e Q q =>
  ha H1 e _ fun H2 e2 => ⟨x, .ty n, t, .type n, b, rfl, .ty n, ty H2 (e.trans e2), hk, q H2 e2⟩
theorem e_all {bs : List Bool} (h : EvL ta σ H (bs.map V.bl)) : Ev (tCB (rAll K) (tCons ta tNil)) σ H (.bl (bs.all id)) := fun H1 e Q q =>
  h H1 e _ fun p H2 hp e2 h2 => ⟨p, bs, rfl, sq_of h2, q H2 e2⟩
theorem e_sum {ns : List Int} (h : EvL ta σ H (ns.map V.int)) : Ev (tCB (rSum K) (tCons ta tNil)) σ H (.int ns.sum) := fun H1 e Q q =>
  h H1 e _ fun p H2 hp e2 h2 => ⟨p, ns, rfl, sq_of h2, q H2 e2⟩
/-! ### a walk whose source stands still -/
def Turns (wi : TI) (g : TG) (σ : L2.St) (H : Hp) (n : Nat) (τ : Nat → L2.St → L2.St) : Prop :=
  ∀ H1, Ex H H1 → ∀ R : It → Hp → Prop, (∀ J H2, Ex H1 H2 → (∀ H3, Ex H2 H3 → (∀ i, i < n → J.go i H3) ∧ J.stop n H3 ∧ ∀ i, i < n → ∀ x H4, J.yld i H3 x H4 → ∀ (σ' : L2.St) (Q : L2.St → Hp → Prop), (∀ H5, Ex H3 H5 → Q (τ i σ') H5) → g x σ' H4 Q) → R J H2) → wi σ H1 R
theorem Turns.mono {wi : TI} {g : TG} {n : Nat} {τ : Nat → L2.St → L2.St} (e : Ex H H') (h : Turns wi g σ H n τ) : Turns wi g σ H' n τ := fun H1 a R q => h H1 (e.trans a) R q
theorem tn_range1 {ta : TA} {j n : Nat} (h : EvA ta σ H [.int (n : Int)]) (hn : n ≤ 1000000) : Turns (iRng1 ta) (gName j) σ H n (fun i σ => σ.set j (some (.int (i : Int)))) := fun H1 e R q =>
  h H1 e _ fun H2 e2 => ⟨(n : Int), rfl, by omega, by omega, q _ H2 e2 fun H3 e3 => ⟨fun i hi => (by show i < ((n : Int)).toNat; omega), (by show ((n : Int)).toNat ≤ n; omega), fun i hi x H4 y σ' Q k => by
    obtain ⟨e4, ex⟩ := y
    subst e4 ex
    have e0 : (0 : Int) + (i : Int) = (i : Int) := Int.zero_add _
    show Q (σ'.set j (some (.int ((0 : Int) + (i : Int))))) H4
    rw [e0]
    exact k H4 (Ex.refl _)⟩⟩
theorem tn_range2 {ta : TA} {j lo hi : Nat} (h : EvA ta σ H [.int (lo : Int), .int (hi : Int)]) (hn : lo ≤ 1000000 ∧ hi ≤ 1000000) : Turns (iRng2 ta) (gName j) σ H (hi - lo) (fun i σ => σ.set j (some (.int ((lo + i : Nat) : Int)))) := fun H1 e R q =>
  h H1 e _ fun H2 e2 => ⟨(lo : Int), (hi : Int), rfl, ⟨by omega, by omega, by omega, by omega⟩, q _ H2 e2 fun H3 e3 => ⟨fun i h1 => (by show i < ((hi : Int) - (lo : Int)).toNat; omega), (by show ((hi : Int) - (lo : Int)).toNat ≤ hi - lo; omega), fun i h1 x H4 y σ' Q k => by
    obtain ⟨e4, ex⟩ := y
    subst e4 ex
    have e0 : (lo : Int) + (i : Int) = ((lo + i : Nat) : Int) := by omega
    show Q (σ'.set j (some (.int ((lo : Int) + (i : Int))))) H4
    rw [e0]
    exact k H4 (Ex.refl _)⟩⟩
theorem tn_rngv {j n : Nat} {a : Addr} (h : Ev te σ H (.ref a)) (ha : H a = some (.rng 0 (n : Int))) (hn : n ≤ 1000) : Turns (iRngV te) (gName j) σ H n (fun i σ => σ.set j (some (.int (i : Int)))) := fun H1 e R q =>
  h H1 e _ fun H2 e2 => ⟨a, n, rfl, (e.trans e2) _ _ ha, hn, q _ H2 e2 fun H3 e3 => ⟨fun i hi => hi, Nat.le_refl _, fun i hi x H4 y σ' Q k => by
    obtain ⟨e4, ex⟩ := y
    subst e4 ex
    have e0 : (0 : Int) + (i : Int) = (i : Int) := Int.zero_add _
    show Q (σ'.set j (some (.int ((0 : Int) + (i : Int))))) H4
    rw [e0]
    exact k H4 (Ex.refl _)⟩⟩
theorem at_map {n : Nat} {ys : Nat → V} {i : Nat} (hi : i < n) : ((List.range n).map ys)[i]? = some (ys i) := by
  rw [List.getElem?_map, List.getElem?_range hi]; rfl
theorem tn_list {tl : TE} {a : Addr} {n j : Nat} {ys : Nat → V} (h : Ev tl σ H (.ref a)) (ha : H a = some (.lst ((List.range n).map ys))) : Turns (iList K tl) (gName j) σ H n (fun i σ => σ.set j (some (ys i))) := fun H1 e R q =>
  h H1 e _ fun H2 e2 => ⟨a, rfl, ⟨_, sq_of ((e.trans e2) _ _ ha)⟩, q _ H2 e2 fun H3 e3 =>
    have hx : SqL K H3 a ((List.range n).map ys) := sq_of (((e.trans e2).trans e3) _ _ ha)
    ⟨fun i hi => ⟨_, _, hx, at_map hi⟩, ⟨_, hx, by simp⟩, fun i hi x H4 y σ' Q k => by
      obtain ⟨e4, ex⟩ := y
      subst e4
      have := (ex _ hx).symm.trans (at_map hi)
      cases this
      exact k H4 (Ex.refl _)⟩⟩
theorem tn_newlist {tl : TE} {n j : Nat} {ys : Nat → V} (h : EvL tl σ H ((List.range n).map ys)) : Turns (iList K tl) (gName j) σ H n (fun i σ => σ.set j (some (ys i))) := fun H1 e R q =>
  h H1 e _ fun a H2 hp e2 ha => ⟨a, rfl, ⟨_, sq_of ha⟩, q _ H2 e2 fun H3 e3 =>
    have hx : SqL K H3 a ((List.range n).map ys) := sq_of (e3 _ _ ha)
    ⟨fun i hi => ⟨_, _, hx, at_map hi⟩, ⟨_, hx, by simp⟩, fun i hi x H4 y σ' Q k => by
      obtain ⟨e4, ex⟩ := y
      subst e4
      have := (ex _ hx).symm.trans (at_map hi)
      cases this
      exact k H4 (Ex.refl _)⟩⟩
theorem tn_tup {tl : TE} {a : Addr} {n j : Nat} {ys : Nat → V} (h : Ev tl σ H (.ref a)) (ha : H a = some (.tup ((List.range n).map ys))) : Turns (iTup K tl) (gName j) σ H n (fun i σ => σ.set j (some (ys i))) := fun H1 e R q =>
  h H1 e _ fun H2 e2 => ⟨a, rfl, ⟨_, st_of ((e.trans e2) _ _ ha)⟩, q _ H2 e2 fun H3 e3 =>
    have hx : SqT K H3 a ((List.range n).map ys) := st_of (((e.trans e2).trans e3) _ _ ha)
    ⟨fun i hi => ⟨_, _, hx, at_map hi⟩, ⟨_, hx, by simp⟩, fun i hi x H4 y σ' Q k => by
      obtain ⟨e4, ex⟩ := y
      subst e4
      have := (ex _ hx).symm.trans (at_map hi)
      cases this
      exact k H4 (Ex.refl _)⟩⟩
/-- two names, from a pair at an address -/
theorem g_pair {a : Addr} {u v : V} {i j : Nat} {σ' : L2.St} {Q : L2.St → Hp → Prop} (ha : H a = some (.tup [u, v])) (q : Q ((σ'.set i (some u)).set j (some v)) H) : gTup K 2 (gCons (gName i) (gCons (gName j) gNil)) (.ref a) σ' H Q :=
  ⟨a, [u, v], rfl, st_of ha, rfl, u, [v], rfl, v, [], rfl, rfl, q⟩
theorem tn_enumL {tl : TE} {a : Addr} {n i j : Nat} {ys : Nat → V} (h : Ev tl σ H (.ref a)) (ha : H a = some (.lst ((List.range n).map ys))) : Turns (iEnum K (tCons tl tNil)) (gTup K 2 (gCons (gName i) (gCons (gName j) gNil))) σ H n (fun k σ => (σ.set i (some (.int (k : Int)))).set j (some (ys k))) := fun H1 e R q =>
  h H1 e _ fun H2 e2 => ⟨a, _, rfl, sq_of ((e.trans e2) _ _ ha), q _ H2 e2 fun H3 e3 =>
    have hx : SqL K H3 a ((List.range n).map ys) := sq_of (((e.trans e2).trans e3) _ _ ha)
    ⟨fun i hi => ⟨_, _, hx, at_map hi⟩, ⟨_, hx, by simp⟩, fun k hk x H4 y σ' Q z => by
      obtain ⟨T, u, ex, hT, e4, hu⟩ := y
      subst ex e4
      have := (hu _ hx).symm.trans (at_map hk)
      cases this
      exact g_pair upd_same (z _ (Ex.new hT))⟩⟩
theorem tn_enumT {tl : TE} {a : Addr} {n i j : Nat} {ys : Nat → V} (h : Ev tl σ H (.ref a)) (ha : H a = some (.tup ((List.range n).map ys))) : Turns (iEnumT K (tCons tl tNil)) (gTup K 2 (gCons (gName i) (gCons (gName j) gNil))) σ H n (fun k σ => (σ.set i (some (.int (k : Int)))).set j (some (ys k))) := fun H1 e R q =>
  h H1 e _ fun H2 e2 => ⟨a, _, rfl, st_of ((e.trans e2) _ _ ha), q _ H2 e2 fun H3 e3 =>
    have hx : SqT K H3 a ((List.range n).map ys) := st_of (((e.trans e2).trans e3) _ _ ha)
    ⟨fun i hi => ⟨_, _, hx, at_map hi⟩, ⟨_, hx, by simp⟩, fun k hk x H4 y σ' Q z => by
      obtain ⟨T, u, ex, hT, e4, hu⟩ := y
      subst ex e4
      have := (hu _ hx).symm.trans (at_map hk)
      cases this
      exact g_pair upd_same (z _ (Ex.new hT))⟩⟩
/-- a list of pairs of ints -/
def PairsAt (xs : List V) (ps : List (Nat × Nat)) (H : Hp) : Prop := Paired (fun v (p : Nat × Nat) => ∃ a, v = .ref a ∧ H a = some (.tup [.int (p.1 : Int), .int (p.2 : Int)])) xs ps
theorem PairsAt.mono {xs : List V} {ps : List (Nat × Nat)} (e : Ex H H') (h : PairsAt xs ps H) : PairsAt xs ps H' := Paired.mono (fun _ _ ⟨a, h1, h2⟩ => ⟨a, h1, e _ _ h2⟩) h
theorem pair_get {α β : Type} {F : α → β → Prop} : ∀ {l₁ : List α} {l₂ : List β}, Paired F l₁ l₂ → ∀ {i : Nat} {b : β}, l₂[i]? = some b → ∃ a, l₁[i]? = some a ∧ F a b
  | _, _, .nil, i, b, h => by simp at h
  | _, _, .cons r t, 0, b, h => by
    cases (Option.some.inj h : _ = b)
    exact ⟨_, rfl, r⟩
  | _, _, .cons r t, i + 1, b, h => by
    obtain ⟨a, h1, h2⟩ := pair_get t (i := i) (b := b) h
    exact ⟨a, h1, h2⟩
theorem tn_pairs {tl : TE} {ps : List (Nat × Nat)} {i j : Nat} (h : EvN tl σ H (fun xs H' => PairsAt xs ps H')) :
    Turns (iList K tl) (gTup K 2 (gCons (gName i) (gCons (gName j) gNil))) σ H ps.length (fun k σ => (σ.set i (some (.int ((ps.getD k (0, 0)).1 : Int)))).set j (some (.int ((ps.getD k (0, 0)).2 : Int)))) := fun H1 e R q =>
  h H1 e _ fun a xs H2 hp e2 ha hP => ⟨a, rfl, ⟨_, sq_of ha⟩, q _ H2 e2 fun H3 e3 =>
    have hx : SqL K H3 a xs := sq_of (e3 _ _ ha)
    have hl := hP.length
    ⟨fun k hk => by
      obtain ⟨v, h1, _⟩ := pair_get hP (i := k) (List.getElem?_eq_getElem hk)
      exact ⟨_, v, hx, h1⟩, ⟨_, hx, by omega⟩, fun k hk x H4 y σ' Q z => by
      obtain ⟨e4, ex⟩ := y
      subst e4
      obtain ⟨v, h1, b, h2, h3⟩ := pair_get hP (i := k) (List.getElem?_eq_getElem hk)
      have := (ex _ hx).symm.trans h1
      cases this
      subst h2
      have eg : ps.getD k (0, 0) = ps[k] := by rw [List.getD_eq_getElem?_getD, List.getElem?_eq_getElem hk]; rfl
      have zz : Q ((σ'.set i (some (.int ((ps.getD k (0, 0)).1 : Int)))).set j (some (.int ((ps.getD k (0, 0)).2 : Int)))) H4 := z H4 (Ex.refl _)
      rw [eg] at zz
      exact g_pair (e3 _ _ h3) zz⟩⟩
/-! ### a for over it -/
theorem s_for {wi : TI} {g : TG} {n : Nat} {τ : Nat → L2.St → L2.St} {tu : TS} {D : Ends} (T : Turns wi g σ H n τ) (Pv : Hp → Nat → L2.St → Hp → Prop) (h0 : ∀ H1, Ex H H1 → Pv H1 0 σ H1) (hG : ∀ H1 i σ' H', Ex H H1 → i ≤ n → Pv H1 i σ' H' → Ex H1 H')
    (hs : ∀ H1 i σ' H', Ex H H1 → i < n → Pv H1 i σ' H' → ∀ H5, Ex H' H5 → tu { D with nx := Pv H1 (i + 1), ct := Pv H1 (i + 1), bk := D.nx } (τ i σ') H5) (hd : ∀ H1 σ' H', Ex H H1 → Pv H1 n σ' H' → D.nx σ' H') : tFor wi g tu D σ H :=
  T H (Ex.refl _) _ fun J H1 e1 hJ => ⟨fun i m σ' H' => m = n - i ∧ i ≤ n ∧ Pv H1 i σ' H', ⟨n, by simp, Nat.zero_le _, h0 H1 e1⟩, by
    rintro i m σ' H' ⟨rfl, hi, p⟩
    have q := hJ H' (hG H1 i σ' H' e1 hi p)
    by_cases hlt : i < n
    · exact .inr ⟨q.1 i hlt, Pv H1 (i + 1), fun σ2 H2 p' => ⟨n - (i + 1), by omega, rfl, hlt, p'⟩, fun x H4 y => q.2.2 i hlt x H4 y σ' _ fun H5 e5 => hs H1 i σ' H' e1 hlt p H5 e5⟩
    · have e : i = n := by omega
      subst e
      exact .inl ⟨q.2.1, hd H1 σ' H' e1 p⟩⟩
/-! ### comprehensions -/
theorem lcP {wi : TI} {g : TG} {n : Nat} {τ : Nat → L2.St → L2.St} {tt : TT} {vs : List Nat} {f : Nat → Bool} {R : Nat → V → Hp → Prop} (T : Turns wi g σ H n τ) (hn : n ≤ 40000) (hw : ∀ i, i < n → wipe (τ i (wipe σ vs)) vs = wipe σ vs)
    (ht : ∀ i, i < n → EvT tt (τ i (wipe σ vs)) H (f i)) (he : ∀ i, i < n → f i = true → EvP te (τ i (wipe σ vs)) H (R i)) (mono : ∀ i, MonoT (R i)) :
    EvN (tLc wi g tt te vs) σ H (fun xs H2 => Paired (fun v i => R i v H2) xs ((List.range n).filter f)) := fun H0 e0 Q q =>
  T H0 e0 _ fun J H1 e1 hJ D hD => ⟨fun i m H' => m = n - i ∧ i ≤ n ∧ Ex H1 H' ∧ ∃ xs, H' D = some (.lst xs) ∧ xs.length ≤ i ∧ Paired (fun v i => R i v H') xs ((List.range i).filter f),
    ⟨n, by simp, Nat.zero_le _, Ex.new hD, [], upd_same, Nat.le_refl _, .nil⟩, by
    rintro i m H' ⟨rfl, hi, ex, xs, hx, hl, hP⟩
    have qq := hJ H' ex
    by_cases hlt : i < n
    · refine .inr ⟨qq.1 i hlt, fun H' => Ex H1 H' ∧ ∃ xs, H' D = some (.lst xs) ∧ xs.length ≤ i + 1 ∧ Paired (fun v i => R i v H') xs ((List.range (i + 1)).filter f), fun H2 p' => ⟨n - (i + 1), by omega, rfl, hlt, p'⟩, fun x H4 y => ?_⟩
      refine qq.2.2 i hlt x H4 y _ _ fun H5 e5 => ⟨hw i hlt, ?_⟩
      have eH5 : Ex H H5 := ((e0.trans e1).trans ex).trans e5
      have ef : (List.range (i + 1)).filter f = (List.range i).filter f ++ (if f i = true then [i] else []) := by
        rw [List.range_succ, List.filter_append, List.filter_cons]; rfl
      refine (ht i hlt) H5 eH5 _ fun H6 e6 => ?_
      cases hf : f i with
      | true =>
        refine iteT ?_
        refine (he i hlt hf) H6 (eH5.trans e6) _ fun v H7 e7 r => ?_
        have e67 : Ex H' H7 := (e5.trans e6).trans e7
        refine ⟨xs, e67 _ _ hx, Nat.lt_of_le_of_lt hl (sz_lt (by omega)), Ex.mut (ex.trans e67) hD, xs ++ [v], upd_same, by rw [List.length_append]; simp; omega, ?_⟩
        rw [ef, hf, if_pos rfl]
        have m1 : ExT H' (upd H7 D (.lst (xs ++ [v]))) := (ExT.of e67).trans (ExT.lst (e67 _ _ hx))
        have m2 : ExT H7 (upd H7 D (.lst (xs ++ [v]))) := ExT.lst (e67 _ _ hx)
        exact Paired.snoc (Paired.mono (fun w k r => mono k _ _ _ m1 r) hP) (mono i _ _ _ m2 r)
      | false =>
        refine iteF ?_
        refine ⟨ex.trans (e5.trans e6), xs, (e5.trans e6) _ _ hx, by omega, ?_⟩
        rw [ef, hf, if_neg Bool.false_ne_true, List.append_nil]
        exact Paired.mono (fun w k r => mono k _ _ _ (ExT.of (e5.trans e6)) r) hP
    · have e : i = n := by omega
      subst e
      exact .inl ⟨qq.2.1, q D xs H' (fresh_back e1 hD) (e1.trans ex) hx hP⟩⟩
end
end Sg
set_option maxHeartbeats 4000000
namespace Sg
open PySem PySem.Spec PyProof.Rows L2 Evl
section
variable {K : PySem.W.Frag} {σ : L2.St} {H H' : Hp} {ta tb tc te : TE} {i j : Int} {x y v : V}
theorem pair_eq {α : Type} {c : α → V} : ∀ {xs : List V} {ls : List α}, Paired (fun v l => v = c l) xs ls → xs = ls.map c
  | _, _, .nil => rfl
  | _, _, .cons h t => by rw [h, pair_eq t]; rfl
/-- every element a plain value -/
theorem lcD {wi : TI} {g : TG} {n : Nat} {τ : Nat → L2.St → L2.St} {tt : TT} {vs : List Nat} {f : Nat → Bool} {c : Nat → V} (T : Turns wi g σ H n τ) (hn : n ≤ 40000) (hw : ∀ i, i < n → wipe (τ i (wipe σ vs)) vs = wipe σ vs)
    (ht : ∀ i, i < n → EvT tt (τ i (wipe σ vs)) H (f i)) (he : ∀ i, i < n → f i = true → Ev te (τ i (wipe σ vs)) H (c i)) : EvL (tLc wi g tt te vs) σ H (((List.range n).filter f).map c) :=
  EvL.of ((lcP (R := fun i v _ => v = c i) T hn hw ht (fun i hi hf => EvP.of (he i hi hf)) (fun _ _ _ _ _ h => h)).imp fun xs _ _ h => pair_eq h)
theorem et_yes : EvT tYes σ H true := fun H1 _ _ q => q H1 (Ex.refl _)
theorem filter_all (n : Nat) : (List.range n).filter (fun _ => true) = List.range n := List.filter_eq_self.mpr (fun _ _ => rfl)
/-- no test -/
theorem lcA {wi : TI} {g : TG} {n : Nat} {τ : Nat → L2.St → L2.St} {vs : List Nat} {c : Nat → V} (T : Turns wi g σ H n τ) (hn : n ≤ 40000) (hw : ∀ i, i < n → wipe (τ i (wipe σ vs)) vs = wipe σ vs)
    (he : ∀ i, i < n → Ev te (τ i (wipe σ vs)) H (c i)) : EvL (tLc wi g tYes te vs) σ H ((List.range n).map c) := by
  have h := lcD (f := fun _ => true) T hn hw (fun i _ => et_yes) (fun i hi _ => he i hi)
  rw [filter_all] at h
  exact h
theorem lcPA {wi : TI} {g : TG} {n : Nat} {τ : Nat → L2.St → L2.St} {vs : List Nat} {R : Nat → V → Hp → Prop} (T : Turns wi g σ H n τ) (hn : n ≤ 40000) (hw : ∀ i, i < n → wipe (τ i (wipe σ vs)) vs = wipe σ vs)
    (he : ∀ i, i < n → EvP te (τ i (wipe σ vs)) H (R i)) (mono : ∀ i, MonoT (R i)) : EvN (tLc wi g tYes te vs) σ H (fun xs H2 => Paired (fun v i => R i v H2) xs (List.range n)) := by
  have h := lcP (f := fun _ => true) T hn hw (fun i _ => et_yes) (fun i hi _ => he i hi) mono
  rw [filter_all] at h
  exact h
/-- two for -/
def lab2 (n : Nat) (m : Nat → Nat) (f : Nat → Nat → Bool) : List (Nat × Nat) := (List.range n).flatMap fun i => ((List.range (m i)).filter (f i)).map fun j => (i, j)
theorem lab2_succ (n : Nat) (m : Nat → Nat) (f : Nat → Nat → Bool) : lab2 (n + 1) m f = lab2 n m f ++ ((List.range (m n)).filter (f n)).map fun j => (n, j) := by
  unfold lab2
  rw [List.range_succ, List.flatMap_append]
  simp
def lab2p (i j : Nat) (m : Nat → Nat) (f : Nat → Nat → Bool) : List (Nat × Nat) := lab2 i m f ++ ((List.range j).filter (f i)).map fun j => (i, j)
theorem lab2p_yes {i j : Nat} {m : Nat → Nat} {f : Nat → Nat → Bool} (h : f i j = true) : lab2p i (j + 1) m f = lab2p i j m f ++ [(i, j)] := by
  unfold lab2p
  rw [List.range_succ, List.filter_append, List.filter_cons, if_pos h, List.map_append, List.append_assoc]
  rfl
theorem lab2p_no {i j : Nat} {m : Nat → Nat} {f : Nat → Nat → Bool} (h : f i j = false) : lab2p i (j + 1) m f = lab2p i j m f := by
  unfold lab2p
  rw [List.range_succ, List.filter_append, List.filter_cons, if_neg (by rw [h]; exact Bool.false_ne_true), List.map_append]
  simp
/-- a walk that no heap changes (a range) -/
def TurnsF (wi : TI) (g : TG) (σ : L2.St) (H : Hp) (n : Nat) (τ : Nat → L2.St → L2.St) : Prop :=
  ∀ H1, Ex H H1 → ∀ R : It → Hp → Prop, (∀ J H2, Ex H1 H2 → (∀ H3, (∀ i, i < n → J.go i H3) ∧ J.stop n H3 ∧ ∀ i, i < n → ∀ x H4, J.yld i H3 x H4 → ∀ (σ' : L2.St) (Q : L2.St → Hp → Prop), Q (τ i σ') H3 → g x σ' H4 Q) → R J H2) → wi σ H1 R
theorem tf_range1 {ta : TA} {j n : Nat} (h : EvA ta σ H [.int (n : Int)]) (hn : n ≤ 1000000) : TurnsF (iRng1 ta) (gName j) σ H n (fun i σ => σ.set j (some (.int (i : Int)))) := fun H1 e R q =>
  h H1 e _ fun H2 e2 => ⟨(n : Int), rfl, by omega, by omega, q _ H2 e2 fun H3 => ⟨fun i hi => (by show i < ((n : Int)).toNat; omega), (by show ((n : Int)).toNat ≤ n; omega), fun i hi x H4 y σ' Q k => by
    obtain ⟨e4, ex⟩ := y
    subst e4 ex
    have e0 : (0 : Int) + (i : Int) = (i : Int) := Int.zero_add _
    show Q (σ'.set j (some (.int ((0 : Int) + (i : Int))))) H4
    rw [e0]
    exact k⟩⟩
theorem tf_range2 {ta : TA} {j lo hi : Nat} (h : EvA ta σ H [.int (lo : Int), .int (hi : Int)]) (hn : lo ≤ 1000000 ∧ hi ≤ 1000000) : TurnsF (iRng2 ta) (gName j) σ H (hi - lo) (fun i σ => σ.set j (some (.int ((lo + i : Nat) : Int)))) := fun H1 e R q =>
  h H1 e _ fun H2 e2 => ⟨(lo : Int), (hi : Int), rfl, ⟨by omega, by omega, by omega, by omega⟩, q _ H2 e2 fun H3 => ⟨fun i h1 => (by show i < ((hi : Int) - (lo : Int)).toNat; omega), (by show ((hi : Int) - (lo : Int)).toNat ≤ hi - lo; omega), fun i h1 x H4 y σ' Q k => by
    obtain ⟨e4, ex⟩ := y
    subst e4 ex
    have e0 : (lo : Int) + (i : Int) = ((lo + i : Nat) : Int) := by omega
    show Q (σ'.set j (some (.int ((lo : Int) + (i : Int))))) H4
    rw [e0]
    exact k⟩⟩
theorem lc2P {wi wi1 : TI} {g g1 : TG} {n : Nat} {m : Nat → Nat} {τ : Nat → L2.St → L2.St} {τ1 : Nat → Nat → L2.St → L2.St} {tt1 : TT} {vs vs1 : List Nat} {f : Nat → Nat → Bool} {R : Nat × Nat → V → Hp → Prop} (T : Turns wi g σ H n τ) (hn : n ≤ 100) (hm : ∀ i, i < n → m i ≤ 100)
    (hw : ∀ i, i < n → wipe (τ i (wipe σ vs)) vs = wipe σ vs) (T1 : ∀ i, i < n → TurnsF wi1 g1 (τ i (wipe σ vs)) H (m i) (τ1 i))
    (hw1 : ∀ i j, i < n → j < m i → wipe (τ1 i j (wipe (τ i (wipe σ vs)) vs1)) vs1 = wipe (τ i (wipe σ vs)) vs1)
    (ht : ∀ i j, i < n → j < m i → EvT tt1 (τ1 i j (wipe (τ i (wipe σ vs)) vs1)) H (f i j)) (he : ∀ i j, i < n → j < m i → f i j = true → EvP te (τ1 i j (wipe (τ i (wipe σ vs)) vs1)) H (R (i, j))) (mono : ∀ l, MonoT (R l)) :
    EvN (tLc2 wi g tYes wi1 g1 tt1 te vs vs1) σ H (fun xs H2 => Paired (fun v l => R l v H2) xs (lab2 n m f)) := fun H0 e0 Q q =>
  T H0 e0 _ fun J H1 e1 hJ D hD => by
  let Inv2 : Nat → Nat → Hp → Prop := fun i j H' => Ex H1 H' ∧ ∃ xs, H' D = some (.lst xs) ∧ xs.length ≤ i * 100 + j ∧ Paired (fun v l => R l v H') xs (lab2p i j m f)
  refine ⟨fun i k H' => k = n - i ∧ i ≤ n ∧ Inv2 i 0 H', ⟨n, by simp, Nat.zero_le _, Ex.new hD, [], upd_same, Nat.le_refl _, .nil⟩, ?_⟩
  rintro i k H' ⟨rfl, hi, p⟩
  have qq := hJ H' p.1
  by_cases hlt : i < n
  · refine .inr ⟨qq.1 i hlt, fun H' => Inv2 (i + 1) 0 H', fun H2 p' => ⟨n - (i + 1), by omega, rfl, hlt, p'⟩, fun x H4 y => ?_⟩
    refine qq.2.2 i hlt x H4 y _ _ fun H5 e5 => ⟨hw i hlt, ?_⟩
    show wi1 (τ i (wipe σ vs)) H5 _
    have eH5 : Ex H H5 := ((e0.trans e1).trans p.1).trans e5
    have p5 : Inv2 i 0 H5 := by
      obtain ⟨a1, xs, a2, a3, a4⟩ := p
      exact ⟨a1.trans e5, xs, e5 _ _ a2, a3, Paired.mono (fun w k r => mono k _ _ _ (ExT.of e5) r) a4⟩
    refine T1 i hlt H5 eH5 _ fun J1 H6 e6 hJ1 => ?_
    have p6 : Inv2 i 0 H6 := by
      obtain ⟨a1, xs, a2, a3, a4⟩ := p5
      exact ⟨a1.trans e6, xs, e6 _ _ a2, a3, Paired.mono (fun w k r => mono k _ _ _ (ExT.of e6) r) a4⟩
    refine ⟨fun j k H' => k = m i - j ∧ j ≤ m i ∧ Inv2 i j H', ⟨m i, by simp, Nat.zero_le _, p6⟩, ?_⟩
    rintro j k H' ⟨rfl, hj, p⟩
    have qq := hJ1 H'
    by_cases hlj : j < m i
    · refine .inr ⟨qq.1 j hlj, fun H' => Inv2 i (j + 1) H', fun H2 p' => ⟨m i - (j + 1), by omega, rfl, hlj, p'⟩, fun x H4 y => ?_⟩
      refine qq.2.2 j hlj x H4 y _ _ ⟨hw1 i j hlt hlj, ?_⟩
      obtain ⟨ex, xs, hx, hl, hP⟩ := p
      have eH : Ex H H' := (e0.trans e1).trans ex
      refine (ht i j hlt hlj) H' eH _ fun H7 e7 => ?_
      cases hf : f i j with
      | true =>
        refine iteT ?_
        refine (he i j hlt hlj hf) H7 (eH.trans e7) _ fun v H8 e8 r => ?_
        have e78 : Ex H' H8 := e7.trans e8
        have hmi := hm i hlt
        refine ⟨xs, e78 _ _ hx, Nat.lt_of_le_of_lt hl (sz_lt (by omega)), Ex.mut (ex.trans e78) hD, xs ++ [v], upd_same, by rw [List.length_append]; simp; omega, ?_⟩
        rw [lab2p_yes hf]
        have m1 : ExT H' (upd H8 D (.lst (xs ++ [v]))) := (ExT.of e78).trans (ExT.lst (e78 _ _ hx))
        have m2 : ExT H8 (upd H8 D (.lst (xs ++ [v]))) := ExT.lst (e78 _ _ hx)
        exact Paired.snoc (Paired.mono (fun w k r => mono k _ _ _ m1 r) hP) (mono (i, j) _ _ _ m2 r)
      | false =>
        refine iteF ?_
        refine ⟨ex.trans e7, xs, e7 _ _ hx, by omega, ?_⟩
        rw [lab2p_no hf]
        exact Paired.mono (fun w k r => mono k _ _ _ (ExT.of e7) r) hP
    · have e : j = m i := by omega
      subst e
      refine .inl ⟨qq.2.1, ?_⟩
      obtain ⟨ex, xs, hx, hl, hP⟩ := p
      have hmi := hm i hlt
      refine ⟨ex, xs, hx, by omega, ?_⟩
      have el : lab2p (i + 1) 0 m f = lab2p i (m i) m f := by unfold lab2p; rw [lab2_succ]; simp
      rw [el]
      exact hP
  · have e : i = n := by omega
    subst e
    obtain ⟨ex, xs, hx, _, hP⟩ := p
    refine .inl ⟨qq.2.1, q D xs H' (fresh_back e1 hD) (e1.trans ex) hx ?_⟩
    have el : lab2p i 0 m f = lab2 i m f := by unfold lab2p; simp
    rw [el] at hP
    exact hP
end
end Sg
set_option maxHeartbeats 4000000
/-! balance, and what a search through a web keeps -/
namespace Sg
abbrev Wf := Nat → Nat → Int
def Pm (z : Int) : Prop := z = 1 ∨ z = -1
def Val (n : Nat) (w : Wf) (t : Nat → Int) : Prop := (∀ x, x < n → Pm (t x)) ∧ ∀ x y, x < n → y < n → w x y ≠ 0 → t y = t x * w x y
def Bal (n : Nat) (w : Wf) : Prop := ∃ t, Val n w t
/-- a web's signs -/
def SgnW (n : Nat) (w : Wf) : Prop := (∀ x y, x < n → y < n → w x y = 1 ∨ w x y = -1 ∨ w x y = 0) ∧ (∀ x y, x < n → y < n → w x y = w y x) ∧ ∀ x, x < n → w x x = 0
theorem Pm.ne {z : Int} (h : Pm z) : z ≠ 0 := by
  rcases h with h | h <;> omega
theorem Pm.mul {a b : Int} (ha : Pm a) (hb : Pm b) : Pm (a * b) := by
  rcases ha with rfl | rfl <;> rcases hb with rfl | rfl <;> simp [Pm]
theorem Pm.sq {a : Int} (ha : Pm a) : a * a = 1 := by
  rcases ha with rfl | rfl <;> rfl
theorem Pm.neg {a : Int} (ha : Pm a) : Pm (-a) := by
  rcases ha with rfl | rfl <;> simp [Pm]
def set1 {α : Type} (f : Nat → α) (y : Nat) (v : α) : Nat → α := fun x => if x = y then v else f x
theorem set1_same {α : Type} {f : Nat → α} {y : Nat} {v : α} : set1 f y v y = v := if_pos rfl
theorem set1_ne {α : Type} {f : Nat → α} {x y : Nat} {v : α} (h : x ≠ y) : set1 f y v x = f x := if_neg h
/-- how many are without a side -/
def Un : Nat → (Nat → Int) → Nat
  | 0, _ => 0
  | n + 1, s => Un n s + (if s n = 0 then 1 else 0)
theorem Un_le (n : Nat) (s : Nat → Int) : Un n s ≤ n := by
  induction n with
  | zero => exact Nat.le_refl _
  | succ n ih => unfold Un; split <;> omega
theorem Un_congr {n : Nat} {s s' : Nat → Int} (h : ∀ x, x < n → s x = s' x) : Un n s = Un n s' := by
  induction n with
  | zero => rfl
  | succ n ih => unfold Un; rw [ih fun x hx => h x (by omega), h n (by omega)]
theorem Un_set {n y : Nat} {s : Nat → Int} {v : Int} (hy : y < n) (h0 : s y = 0) (hv : v ≠ 0) : Un n (set1 s y v) + 1 = Un n s := by
  induction n with
  | zero => omega
  | succ n ih =>
    unfold Un
    by_cases e : y = n
    · subst e
      rw [set1_same, if_neg hv, if_pos h0, Un_congr (s' := s) fun x hx => set1_ne (by omega)]
    · have := ih (by omega)
      rw [set1_ne (fun z => e z.symm)]
      omega
/-- what a search keeps: sides s (0: none yet), todo: found, not yet gone through; x is gone through up to j -/
structure Sv (n : Nat) (w : Wf) (s : Nat → Int) (todo : List Nat) (x j : Nat) : Prop where
  sgn : ∀ v, v < n → s v = 0 ∨ Pm (s v)
  todo_ok : ∀ v, v ∈ todo → v < n ∧ s v ≠ 0
  agree : Bal n w → ∃ t, Val n w t ∧ ∀ v, v < n → s v ≠ 0 → t v = s v
  closed : ∀ v y, v < n → y < n → s v ≠ 0 → v ∉ todo → w v y ≠ 0 → (v ≠ x ∨ y < j) → s y ≠ 0
section
variable {n : Nat} {w : Wf} {s : Nat → Int} {todo : List Nat} {x j y : Nat}
theorem Sv.start : Sv n w (fun _ => 0) [] n 0 := ⟨fun _ _ => .inl rfl, fun _ h => (by cases h), fun ⟨t, h⟩ => ⟨t, h, fun _ _ z => absurd rfl z⟩, fun _ _ _ _ z => absurd rfl z⟩
/-- a new piece is begun -/
theorem Sv.begin_ (W : SgnW n w) (h : Sv n w s [] n 0) (hy : y < n) (h0 : s y = 0) : Sv n w (set1 s y 1) [y] n 0 := by
  refine ⟨fun v hv => ?_, fun v hv => ?_, fun b => ?_, fun v z hv hz hs ht hw _ => ?_⟩
  · by_cases e : v = y
    · rw [e, set1_same]; exact .inr (.inl rfl)
    · rw [set1_ne e]; exact h.sgn v hv
  · have e : v = y := by simpa using hv
    rw [e, set1_same]
    exact ⟨hy, by decide⟩
  · obtain ⟨t, ht, ha⟩ := h.agree b
    rcases ht.1 y hy with e | e
    · refine ⟨t, ht, fun v hv hs => ?_⟩
      by_cases ev : v = y
      · rw [ev, set1_same, e]
      · rw [set1_ne ev] at hs ⊢
        exact ha v hv hs
    · -- turned on all that has no side yet
      refine ⟨fun v => if s v = 0 then - t v else t v, ⟨fun v hv => ?_, fun a b ha' hb' hw => ?_⟩, fun v hv hs => ?_⟩
      · show Pm (if s v = 0 then - t v else t v)
        split
        · exact (ht.1 v hv).neg
        · exact ht.1 v hv
      · show (if s b = 0 then - t b else t b) = (if s a = 0 then - t a else t a) * w a b
        have e0 := ht.2 a b ha' hb' hw
        by_cases sa : s a = 0
        · have sb : s b = 0 := by
            apply Classical.byContradiction
            intro sb
            exact h.closed b a hb' ha' sb (by simp) (by rw [W.2.1 b a hb' ha']; exact hw) (.inl (by omega)) sa
          rw [if_pos sa, if_pos sb, e0, Int.neg_mul]
        · have sb : s b ≠ 0 := h.closed a b ha' hb' sa (by simp) hw (.inl (by omega))
          rw [if_neg sa, if_neg sb, e0]
      · show (if s v = 0 then - t v else t v) = set1 s y 1 v
        by_cases ev : v = y
        · rw [ev, set1_same, if_pos h0, e]; rfl
        · rw [set1_ne ev] at hs ⊢
          rw [if_neg hs]
          exact ha v hv hs
  · have e : v ≠ y := fun e => ht (by rw [e]; simp)
    rw [set1_ne e] at hs
    have := h.closed v z hv hz hs (by simp) hw (.inl (by omega))
    by_cases ez : z = y
    · rw [ez, set1_same]; decide
    · rw [set1_ne ez]; exact this
/-- y gets its side from x -/
theorem Sv.give (W : SgnW n w) (h : Sv n w s todo x j) (hx : x < n) (hsx : s x ≠ 0) (hj : j < n) (h0 : s j = 0) (hw : w x j ≠ 0) {todo' : List Nat} (ht' : ∀ v, v ∈ todo' ↔ v ∈ todo ∨ v = j) : Sv n w (set1 s j (s x * w x j)) todo' x (j + 1) := by
  have hxj : x ≠ j := fun e => hsx (by rw [e]; exact h0)
  have pw : Pm (w x j) := by
    rcases W.1 x j hx hj with z | z | z
    · exact .inl z
    · exact .inr z
    · exact absurd z hw
  have px : Pm (s x) := (h.sgn x hx).resolve_left hsx
  have pj := px.mul pw
  refine ⟨fun v hv => ?_, fun v hv => ?_, fun b => ?_, fun v z hv hz hs ht hw' hc => ?_⟩
  · by_cases e : v = j
    · rw [e, set1_same]; exact .inr pj
    · rw [set1_ne e]; exact h.sgn v hv
  · by_cases e : v = j
    · rw [e, set1_same]; exact ⟨hj, pj.ne⟩
    · rcases (ht' v).mp hv with q | q
      · rw [set1_ne e]; exact h.todo_ok v q
      · exact absurd q e
  · obtain ⟨t, ht, ha⟩ := h.agree b
    refine ⟨t, ht, fun v hv hs => ?_⟩
    by_cases e : v = j
    · rw [e, set1_same, ht.2 x j hx hj hw, ha x hx hsx]
    · rw [set1_ne e] at hs ⊢
      exact ha v hv hs
  · have e : v ≠ j := fun e => ht ((ht' v).mpr (.inr e))
    have ht2 : v ∉ todo := fun z => ht ((ht' v).mpr (.inl z))
    rw [set1_ne e] at hs
    by_cases ez : z = j
    · rw [ez, set1_same]; exact pj.ne
    · rw [set1_ne ez]
      exact h.closed v z hv hz hs ht2 hw' (by rcases hc with q | q; exact .inl q; exact .inr (by omega))
/-- j needs nothing -/
theorem Sv.pass (h : Sv n w s todo x j) (hp : w x j = 0 ∨ s j ≠ 0) : Sv n w s todo x (j + 1) :=
  ⟨h.sgn, h.todo_ok, h.agree, fun v z hv hz hs ht hw hc => by
    by_cases e : v = x ∧ z = j
    · rcases hp with q | q
      · rw [e.1, e.2] at hw; exact absurd q hw
      · rw [e.2]; exact q
    · exact h.closed v z hv hz hs ht hw (by rcases hc with q | q; exact .inl q; by_cases ev : v = x; exact .inr (by have : z ≠ j := fun ez => e ⟨ev, ez⟩; omega); exact .inl ev)⟩
/-- the next one is taken -/
theorem Sv.take (h : Sv n w s todo n 0) {todo' : List Nat} (ht : ∀ v, v ∈ todo → v ∈ todo' ∨ v = x) (ht2 : ∀ v, v ∈ todo' → v ∈ todo) (hx : x ∈ todo) : Sv n w s todo' x 0 :=
  ⟨h.sgn, fun v hv => h.todo_ok v (ht2 v hv), h.agree, fun v z hv hz hs hn hw hc => by
    rcases hc with q | q
    · exact h.closed v z hv hz hs (fun z => (ht v z).elim hn q) hw (.inl (by omega))
    · omega⟩
theorem Sv.done (h : Sv n w s todo x n) : Sv n w s todo n 0 := ⟨h.sgn, h.todo_ok, h.agree, fun v z hv hz hs ht hw _ => h.closed v z hv hz hs ht hw (.inr hz)⟩
/-- all have a side: then these sides are right, if any are -/
theorem Sv.right (h : Sv n w s todo x j) (hall : ∀ v, v < n → s v ≠ 0) (b : Bal n w) : Val n w s := by
  obtain ⟨t, ht, ha⟩ := h.agree b
  exact ⟨fun v hv => (h.sgn v hv).resolve_left (hall v hv), fun a c ha' hc hw => by rw [← ha c hc (hall c hc), ← ha a ha' (hall a ha')]; exact ht.2 a c ha' hc hw⟩
theorem Sv.clash (h : Sv n w s todo x j) {a b : Nat} (ha : a < n) (hb : b < n) (sa : s a ≠ 0) (sb : s b ≠ 0) (hw : w a b ≠ 0) (hne : s b ≠ s a * w a b) : ¬ Bal n w := fun bl => by
  obtain ⟨t, ht, hag⟩ := h.agree bl
  exact hne (by rw [← hag a ha sa, ← hag b hb sb]; exact ht.2 a b ha hb hw)
end
/-- parents: a root has none; the ranks fall towards the roots; no two roots are tied -/
structure Pr (n : Nat) (w : Wf) (s : Nat → Int) (par : Nat → Option Nat) (rk : Nat → Nat) : Prop where
  none_ : ∀ v, v < n → s v = 0 → par v = none
  rank : ∀ v, v < n → s v ≠ 0 → rk v + Un n s < n ∧ ∀ q, par v = some q → q < n ∧ s q ≠ 0 ∧ rk q < rk v
  roots : ∀ a b, a < n → b < n → w a b ≠ 0 → s a ≠ 0 → s b ≠ 0 → ¬ (par a = none ∧ par b = none)
section
variable {n : Nat} {w : Wf} {s : Nat → Int} {par : Nat → Option Nat} {rk : Nat → Nat} {todo : List Nat} {x j y : Nat}
theorem Pr.start : Pr n w (fun _ => 0) (fun _ => none) (fun _ => 0) := ⟨fun _ _ _ => rfl, fun _ _ h => absurd rfl h, fun _ _ _ _ _ h => absurd rfl h⟩
theorem Pr.begin_ (W : SgnW n w) (S : Sv n w s [] n 0) (h : Pr n w s par rk) (hy : y < n) (h0 : s y = 0) : Pr n w (set1 s y 1) par (set1 rk y (n - Un n s)) := by
  have hu := Un_set (n := n) (s := s) (v := 1) hy h0 (by decide)
  have hl := Un_le n s
  refine ⟨fun v hv hs => ?_, fun v hv hs => ?_, fun a b ha hb hw sa sb => ?_⟩
  · by_cases e : v = y
    · rw [e, set1_same] at hs; exact absurd hs (by decide)
    · rw [set1_ne e] at hs; exact h.none_ v hv hs
  · by_cases e : v = y
    · subst e
      rw [set1_same]
      refine ⟨by omega, fun q hq => ?_⟩
      rw [h.none_ v hv h0] at hq; cases hq
    · rw [set1_ne e] at hs
      obtain ⟨h1, h2⟩ := h.rank v hv hs
      rw [set1_ne e]
      refine ⟨by omega, fun q hq => ?_⟩
      obtain ⟨a1, a2, a3⟩ := h2 q hq
      have eq : q ≠ y := fun z => a2 (by rw [z]; exact h0)
      rw [set1_ne eq, set1_ne eq]
      exact ⟨a1, a2, a3⟩
  · -- a tie with y: the other end would have given y a side
    have no : ∀ c, c < n → s c ≠ 0 → w c y ≠ 0 → False := fun c hc sc hcy => S.closed c y hc hy sc (by simp) hcy (.inl (by omega)) h0
    by_cases ea : a = y
    · by_cases eb : b = y
      · rw [ea, eb, W.2.2 y hy] at hw; exact absurd rfl hw
      · rw [set1_ne eb] at sb
        exact (no b hb sb (by rw [W.2.1 b y hb hy, ← ea]; exact hw)).elim
    · rw [set1_ne ea] at sa
      by_cases eb : b = y
      · exact (no a ha sa (by rw [← eb]; exact hw)).elim
      · rw [set1_ne eb] at sb
        exact h.roots a b ha hb hw sa sb
theorem Pr.give (h : Pr n w s par rk) (hx : x < n) (hsx : s x ≠ 0) (hj : j < n) (h0 : s j = 0) {v0 : Int} (hv0 : v0 ≠ 0) : Pr n w (set1 s j v0) (set1 par j (some x)) (set1 rk j (n - Un n s)) := by
  have hu := Un_set (n := n) (s := s) (v := v0) hj h0 hv0
  have hl := Un_le n s
  have hxj : x ≠ j := fun e => hsx (by rw [e]; exact h0)
  refine ⟨fun v hv hs => ?_, fun v hv hs => ?_, fun a b ha hb hw sa sb => ?_⟩
  · by_cases e : v = j
    · rw [e, set1_same] at hs; exact absurd hs hv0
    · rw [set1_ne e] at hs; rw [set1_ne e]; exact h.none_ v hv hs
  · by_cases e : v = j
    · subst e
      rw [set1_same, set1_same]
      refine ⟨by omega, fun q hq => ?_⟩
      have eq : x = q := Option.some.inj hq
      subst eq
      rw [set1_ne hxj, set1_ne hxj]
      have := (h.rank x hx hsx).1
      exact ⟨hx, hsx, by omega⟩
    · rw [set1_ne e] at hs
      obtain ⟨h1, h2⟩ := h.rank v hv hs
      rw [set1_ne e, set1_ne e]
      refine ⟨by omega, fun q hq => ?_⟩
      obtain ⟨a1, a2, a3⟩ := h2 q hq
      have eq : q ≠ j := fun z => a2 (by rw [z]; exact h0)
      rw [set1_ne eq, set1_ne eq]
      exact ⟨a1, a2, a3⟩
  · by_cases ea : a = j
    · rw [ea, set1_same]
      intro z
      cases z.1
    · by_cases eb : b = j
      · rw [eb, set1_same]
        intro z
        cases z.2
      · rw [set1_ne ea] at sa ⊢
        rw [set1_ne eb] at sb ⊢
        exact h.roots a b ha hb hw sa sb
end
end Sg
set_option maxHeartbeats 4000000
/-! the foes of a turned web, counted; trouble -/
namespace Sg
def sumN : Nat → (Nat → Int) → Int
  | 0, _ => 0
  | n + 1, f => sumN n f + f n
theorem sumN_succ (n : Nat) (f : Nat → Int) : sumN (n + 1) f = sumN n f + f n := rfl
theorem sumN_congr {n : Nat} {f g : Nat → Int} (h : ∀ i, i < n → f i = g i) : sumN n f = sumN n g := by
  induction n with
  | zero => rfl
  | succ n ih => rw [sumN_succ, sumN_succ, ih fun i hi => h i (by omega), h n (by omega)]
theorem sumN_add {n : Nat} {f g : Nat → Int} : sumN n (fun i => f i + g i) = sumN n f + sumN n g := by
  induction n with
  | zero => rfl
  | succ n ih => rw [sumN_succ, sumN_succ, sumN_succ, ih]; omega
theorem sumN_range (n : Nat) (f : Nat → Int) : ((List.range n).map f).sum = sumN n f := by
  induction n with
  | zero => rfl
  | succ n ih => rw [List.range_succ, List.map_append, List.sum_append, ih, sumN_succ]; simp
/-- one value changed -/
theorem sumN_set {n k : Nat} {f : Nat → Int} {v : Int} (hk : k < n) : sumN n (set1 f k v) = sumN n f + (v - f k) := by
  induction n with
  | zero => omega
  | succ n ih =>
    rw [sumN_succ, sumN_succ]
    by_cases e : k = n
    · subst e
      rw [set1_same, sumN_congr (g := f) fun i hi => set1_ne (by omega)]
      omega
    · rw [set1_ne (fun z => e z.symm), ih (by omega)]
      omega
/-- a foe behind turning p and q at its ends -/
def foe1 (z : Int) (p q : Bool) : Int := if (z = -1 ∧ p = q) ∨ (z = 1 ∧ p ≠ q) then 1 else 0
theorem foe1_comm (z : Int) (p q : Bool) : foe1 z p q = foe1 z q p := by
  unfold foe1
  cases p <;> cases q <;> simp
theorem foe1_diff {z : Int} (hz : z = 1 ∨ z = -1 ∨ z = 0) (q : Bool) : foe1 z true q = foe1 z false q + (if q then -z else z) := by
  unfold foe1
  rcases hz with rfl | rfl | rfl <;> cases q <;> decide
theorem foe1_not (z : Int) (p q : Bool) : foe1 z (!p) (!q) = foe1 z p q := by
  unfold foe1
  cases p <;> cases q <;> simp
theorem foe1_zero (p q : Bool) : foe1 0 p q = 0 := by
  unfold foe1
  cases p <;> cases q <;> decide
def FE : Nat → Wf → (Nat → Bool) → Int
  | 0, _, _ => 0
  | n + 1, w, b => FE n w b + sumN n (fun y => foe1 (w n y) (b n) (b y))
theorem FE_succ (n : Nat) (w : Wf) (b : Nat → Bool) : FE (n + 1) w b = FE n w b + sumN n (fun y => foe1 (w n y) (b n) (b y)) := rfl
theorem FE_congr {n : Nat} {w w' : Wf} {b b' : Nat → Bool} (hw : ∀ x y, x < n → y < n → w x y = w' x y) (h : ∀ x, x < n → b x = b' x) : FE n w b = FE n w' b' := by
  induction n with
  | zero => rfl
  | succ n ih =>
    rw [FE_succ, FE_succ, ih (fun x y hx hy => hw x y (by omega) (by omega)) fun x hx => h x (by omega), sumN_congr fun y hy => by rw [hw n y (by omega) (by omega), h n (by omega), h y (by omega)]]
/-- one place turned -/
theorem FE_turn {n k : Nat} {w : Wf} {b : Nat → Bool} (W : SgnW n w) (hk : k < n) (hb : b k = false) : FE n w (set1 b k true) = FE n w b + sumN n (fun y => if b y then - w k y else w k y) := by
  induction n with
  | zero => omega
  | succ n ih =>
    have W' : SgnW n w := ⟨fun x y hx hy => W.1 x y (by omega) (by omega), fun x y hx hy => W.2.1 x y (by omega) (by omega), fun x hx => W.2.2 x (by omega)⟩
    show FE n w (set1 b k true) + sumN n (fun y => foe1 (w n y) (set1 b k true n) (set1 b k true y)) = FE n w b + sumN n (fun y => foe1 (w n y) (b n) (b y)) + (sumN n (fun y => if b y then - w k y else w k y) + (if b n then - w k n else w k n))
    by_cases e : k = n
    · subst e
      rw [FE_congr (w' := w) (b' := b) (fun _ _ _ _ => rfl) fun x hx => set1_ne (by omega)]
      have h1 : sumN k (fun y => foe1 (w k y) (set1 b k true k) (set1 b k true y)) = sumN k (fun y => foe1 (w k y) (b k) (b y) + (if b y then - w k y else w k y)) := sumN_congr fun y hy => by
        rw [set1_same, set1_ne (by omega), hb]
        exact foe1_diff (W.1 k y (by omega) (by omega)) (b y)
      rw [h1, sumN_add, W.2.2 k (by omega)]
      have : (if b k = true then -(0 : Int) else 0) = 0 := by split <;> rfl
      rw [this]
      omega
    · rw [ih W' (by omega)]
      have h1 : sumN n (fun y => foe1 (w n y) (set1 b k true n) (set1 b k true y)) = sumN n (set1 (fun y => foe1 (w n y) (b n) (b y)) k (foe1 (w n k) (b n) true)) := sumN_congr fun y hy => by
        rw [set1_ne (fun z => e z.symm)]
        by_cases ey : y = k
        · rw [ey, set1_same, set1_same]
        · rw [set1_ne ey, set1_ne ey]
      rw [h1, sumN_set (by omega : k < n)]
      have h2 : foe1 (w n k) (b n) true = foe1 (w n k) (b n) (b k) + (if b n then - w k n else w k n) := by
        rw [hb, foe1_comm, foe1_comm (w n k) (b n) false, W.2.1 k n (by omega) (by omega)]
        exact foe1_diff (W.1 n k (by omega) (by omega)) (b n)
      show FE n w b + sumN n (fun y => if b y = true then -w k y else w k y) + (sumN n (fun y => foe1 (w n y) (b n) (b y)) + (foe1 (w n k) (b n) true - foe1 (w n k) (b n) (b k))) = _
      rw [h2]
      omega
theorem FE_not (n : Nat) (w : Wf) (b : Nat → Bool) : FE n w (fun x => !b x) = FE n w b := by
  induction n with
  | zero => rfl
  | succ n ih =>
    rw [FE_succ, FE_succ, ih, sumN_congr fun y _ => foe1_not (w n y) (b n) (b y)]
/-- all foes counted row by row the other way -/
def upN (n : Nat) (g : Nat → Nat → Int) : Int := sumN n fun i => sumN (n - (i + 1)) fun j => g i (i + 1 + j)
theorem upN_succ (n : Nat) (g : Nat → Nat → Int) : upN (n + 1) g = upN n g + sumN n fun i => g i n := by
  unfold upN
  show sumN n (fun i => sumN (n + 1 - (i + 1)) fun j => g i (i + 1 + j)) + sumN (n + 1 - (n + 1)) (fun j => g n (n + 1 + j)) = _
  rw [Nat.sub_self]
  have h : sumN n (fun i => sumN (n + 1 - (i + 1)) fun j => g i (i + 1 + j)) = sumN n (fun i => (sumN (n - (i + 1)) fun j => g i (i + 1 + j)) + g i n) := sumN_congr fun i hi => by
    rw [show n + 1 - (i + 1) = (n - (i + 1)) + 1 by omega]
    show sumN (n - (i + 1)) (fun j => g i (i + 1 + j)) + g i (i + 1 + (n - (i + 1))) = _
    rw [show i + 1 + (n - (i + 1)) = n by omega]
  rw [h, sumN_add]
  show _ + _ + 0 = _
  omega
theorem upN_FE {n : Nat} {w : Wf} (W : SgnW n w) : upN n (fun x y => if w x y = -1 then 1 else 0) = FE n w (fun _ => false) := by
  induction n with
  | zero => rfl
  | succ n ih =>
    have W' : SgnW n w := ⟨fun x y hx hy => W.1 x y (by omega) (by omega), fun x y hx hy => W.2.1 x y (by omega) (by omega), fun x hx => W.2.2 x (by omega)⟩
    rw [upN_succ, ih W', FE_succ]
    congr 1
    exact sumN_congr fun i hi => by
      rw [W.2.1 i n (by omega) (by omega)]
      unfold foe1
      simp
/-! ### masks -/
theorem bit_split {t r : Nat} (hr : r < 2 ^ t) (y : Nat) : (2 ^ t + r).testBit y = set1 r.testBit t true y := by
  by_cases e : y = t
  · subst e
    rw [set1_same, Nat.testBit_two_pow_add_eq, Nat.testBit_lt_two_pow hr]; rfl
  · rw [set1_ne e]
    by_cases c : y < t
    · rw [Nat.testBit_two_pow_add_gt c]
    · have h1 : 2 ^ t + r < 2 ^ y := by
        have : 2 ^ (t + 1) ≤ 2 ^ y := Nat.pow_le_pow_right (by decide) (by omega)
        rw [Nat.pow_succ] at this
        omega
      rw [Nat.testBit_lt_two_pow h1, Nat.testBit_lt_two_pow (by omega)]
/-- a mask for any turning of n places -/
theorem mask_of : ∀ (n : Nat) (b : Nat → Bool), ∃ m, m < 2 ^ n ∧ ∀ x, x < n → m.testBit x = b x
  | 0, b => ⟨0, by decide, fun x hx => by omega⟩
  | n + 1, b => by
    obtain ⟨m, h1, h2⟩ := mask_of n b
    cases hb : b n with
    | true =>
      refine ⟨2 ^ n + m, by rw [Nat.pow_succ]; omega, fun x hx => ?_⟩
      rw [bit_split h1]
      by_cases e : x = n
      · rw [e, set1_same, hb]
      · rw [set1_ne e]; exact h2 x (by omega)
    | false =>
      refine ⟨m, by rw [Nat.pow_succ]; omega, fun x hx => ?_⟩
      by_cases e : x = n
      · rw [e, Nat.testBit_lt_two_pow h1, hb]
      · exact h2 x (by omega)
def TroubleIs (n : Nat) (w : Wf) (m : Int) : Prop := (∃ b, m = FE n w b) ∧ ∀ b, m ≤ FE n w b
theorem TroubleIs.uniq {n : Nat} {w : Wf} {m m' : Int} (h : TroubleIs n w m) (h' : TroubleIs n w m') : m = m' := by
  obtain ⟨⟨b, e⟩, l⟩ := h
  obtain ⟨⟨b', e'⟩, l'⟩ := h'
  have h1 := l b'
  have h2 := l' b
  omega
def sg (b : Bool) : Int := if b then -1 else 1
theorem foe1_turn (z : Int) (hz : z = 1 ∨ z = -1 ∨ z = 0) (p q c d : Bool) : foe1 (z * sg c * sg d) p q = foe1 z (p ^^ c) (q ^^ d) := by
  rcases hz with rfl | rfl | rfl <;> cases p <;> cases q <;> cases c <;> cases d <;> decide
theorem FE_turned {n : Nat} {w w' : Wf} {c : Nat → Bool} (W : SgnW n w) (h : ∀ x y, x < n → y < n → w' x y = w x y * sg (c x) * sg (c y)) (b : Nat → Bool) : FE n w' b = FE n w (fun x => b x ^^ c x) := by
  induction n with
  | zero => rfl
  | succ n ih =>
    have W' : SgnW n w := ⟨fun x y hx hy => W.1 x y (by omega) (by omega), fun x y hx hy => W.2.1 x y (by omega) (by omega), fun x hx => W.2.2 x (by omega)⟩
    rw [FE_succ, FE_succ, ih W' fun x y hx hy => h x y (by omega) (by omega)]
    congr 1
    exact sumN_congr fun y hy => by
      rw [h n y (by omega) (by omega)]
      exact foe1_turn _ (W.1 n y (by omega) (by omega)) _ _ _ _
/-- turning keeps the trouble -/
theorem TroubleIs.turned {n : Nat} {w w' : Wf} {c : Nat → Bool} (W : SgnW n w) (h : ∀ x y, x < n → y < n → w' x y = w x y * sg (c x) * sg (c y)) {m : Int} (t : TroubleIs n w' m) : TroubleIs n w m := by
  obtain ⟨⟨b, e⟩, l⟩ := t
  refine ⟨⟨_, by rw [e, FE_turned W h]⟩, fun b' => ?_⟩
  have := l (fun x => b' x ^^ c x)
  rw [FE_turned W h] at this
  have e2 : (fun x => (b' x ^^ c x) ^^ c x) = b' := by
    funext x
    cases b' x <;> cases c x <;> rfl
  rw [e2] at this
  exact this
end Sg
set_option maxHeartbeats 4000000
/-! signed webs in the heap -/
namespace Sg
open PySem PySem.Spec PyProof.Rows L2 Evl
/-- a web of n places stands at a -/
def WebAt (a : Addr) (n : Nat) (w : Wf) (H : Hp) : Prop := ∃ rs : Nat → Addr, H a = some (.tup ((List.range n).map fun i => V.ref (rs i))) ∧ ∀ i, i < n → H (rs i) = some (.tup ((List.range n).map fun j => V.int (w i j)))
theorem WebAt.t {a : Addr} {n : Nat} {w : Wf} {H H' : Hp} (e : ExT H H') (h : WebAt a n w H) : WebAt a n w H' := let ⟨rs, h1, h2⟩ := h; ⟨rs, e _ _ h1, fun i hi => e _ _ (h2 i hi)⟩
theorem WebAt.m {a : Addr} {n : Nat} {w : Wf} {H H' : Hp} (e : Ex H H') (h : WebAt a n w H) : WebAt a n w H' := h.t (ExT.of e)
theorem WebAt.congr {a : Addr} {n : Nat} {w w' : Wf} {H : Hp} (h : WebAt a n w H) (e : ∀ i j, i < n → j < n → w i j = w' i j) : WebAt a n w' H := by
  obtain ⟨rs, h1, h2⟩ := h
  refine ⟨rs, h1, fun i hi => ?_⟩
  rw [h2 i hi]
  congr 2
  exact List.map_congr_left fun j hj => by rw [e i j hi (List.mem_range.mp hj)]
/-- a signed web -/
structure Sw (n : Nat) (w : Wf) : Prop where
  pos : 1 ≤ n
  le : n ≤ 10
  sgn : ∀ x y, x < n → y < n → w x y = 1 ∨ w x y = -1 ∨ w x y = 0
  sym : ∀ x y, x < n → y < n → w x y = w y x
  dia : ∀ x, x < n → w x x = 0
/-- a tuple of ints, a list of ints -/
def TupI (a : Addr) (l : List Int) (H : Hp) : Prop := H a = some (.tup (l.map V.int))
def LstI (a : Addr) (l : List Int) (H : Hp) : Prop := H a = some (.lst (l.map V.int))
/-- what promises say: a plain value, a tuple, a web, anything by a word -/
def RetP (R : V → Hp → Prop) (H : Hp) (Q : VK) : Prop := ∀ v H2, Ex H H2 → R v H2 → Q v H2
def IsW (n : Nat) (w : Wf) : V → Hp → Prop := fun v H => ∃ a, v = .ref a ∧ WebAt a n w H
def IsTI (l : List Int) : V → Hp → Prop := fun v H => ∃ a, v = .ref a ∧ TupI a l H
theorem IsW.mt {n : Nat} {w : Wf} : MonoT (IsW n w) := fun v H H' e ⟨a, h1, h2⟩ => ⟨a, h1, h2.t e⟩
theorem IsTI.mt {l : List Int} : MonoT (IsTI l) := fun v H H' e ⟨a, h1, h2⟩ => ⟨a, h1, e _ _ h2⟩
theorem range_map_len {α : Type} (n : Nat) (f : Nat → α) : ((List.range n).map f).length = n := by simp
section
variable {K : PySem.W.Frag} {σ : L2.St} {H H' : Hp} {ta tb tc te : TE} {i j : Int} {x y v : V} {n : Nat} {w : Wf} {a : Addr}
theorem e_lenW (hw : WebAt a n w H) (ha : Ev ta σ H (.ref a)) : Ev (tCB (rLenS K) (tCons ta tNil)) σ H (.int (n : Int)) := by
  obtain ⟨rs, h1, _⟩ := hw
  have h := e_lenT (K := K) ha h1
  rw [range_map_len] at h
  exact h
theorem e_lenR {f : Nat → V} (hp : H a = some (.tup ((List.range n).map f))) (ha : Ev ta σ H (.ref a)) : Ev (tCB (rLenS K) (tCons ta tNil)) σ H (.int (n : Int)) := by
  have h := e_lenT (K := K) ha hp
  rw [range_map_len] at h
  exact h
theorem e_lenLR {f : Nat → V} (hp : H a = some (.lst ((List.range n).map f))) (ha : Ev ta σ H (.ref a)) : Ev (tCB (rLenS K) (tCons ta tNil)) σ H (.int (n : Int)) := by
  have h := e_lenL (K := K) ha hp
  rw [range_map_len] at h
  exact h
/-- web[x][y] -/
theorem e_web (hw : WebAt a n w H) {i j : Nat} {zi zj : Int} (ha : Ev ta σ H (.ref a)) (hb : Ev tb σ H (.int zi)) (hc : Ev tc σ H (.int zj)) (ei : zi = (i : Int)) (ej : zj = (j : Int)) (hi : i < n) (hj : j < n) :
    Ev (tOp (rIxT K) (tOp (rIxT K) ta tb) tc) σ H (.int (w i j)) := by
  obtain ⟨rs, h1, h2⟩ := hw
  have r := e_ixT (K := K) ha h1 hb ei (at_map hi)
  exact e_ixT r (h2 i hi) hc ej (at_map hj)
/-- xs[x] of a list told by places -/
theorem e_ixLR {f : Nat → V} {k : Nat} {z : Int} (hp : H a = some (.lst ((List.range n).map f))) (ha : Ev ta σ H (.ref a)) (hb : Ev tb σ H (.int z)) (ez : z = (k : Int)) (hk : k < n) : Ev (tOp (rIxL K) ta tb) σ H (f k) := e_ixL ha hp hb ez (at_map hk)
theorem e_ixTR {f : Nat → V} {k : Nat} {z : Int} (hp : H a = some (.tup ((List.range n).map f))) (ha : Ev ta σ H (.ref a)) (hb : Ev tb σ H (.int z)) (ez : z = (k : Int)) (hk : k < n) : Ev (tOp (rIxT K) ta tb) σ H (f k) := e_ixT ha hp hb ez (at_map hk)
/-- rows made anew, gathered into a tuple: a web -/
def refOf : Option V → Addr
  | some (.ref r) => r
  | _ => 0
theorem web_of {n : Nat} {w : Wf} {xs : List V} {H : Hp} {a : Addr} (ha : H a = some (.tup xs)) (h : Paired (fun v i => ∃ r, v = V.ref r ∧ H r = some (.tup ((List.range n).map fun j => V.int (w i j)))) xs (List.range n)) : WebAt a n w H := by
  have key : ∀ i, i < n → xs[i]? = some (.ref (refOf xs[i]?)) ∧ H (refOf xs[i]?) = some (.tup ((List.range n).map fun j => V.int (w i j))) := fun i hi => by
    obtain ⟨v, h1, r, h2, h3⟩ := pair_get h (i := i) (b := i) (by rw [List.getElem?_range hi])
    rw [h1, h2]
    exact ⟨rfl, h3⟩
  refine ⟨fun i => refOf xs[i]?, ?_, fun i hi => (key i hi).2⟩
  rw [ha]
  congr 2
  apply List.ext_getElem?
  intro i
  by_cases hi : i < n
  · rw [at_map hi]
    exact (key i hi).1
  · have hl := h.length
    rw [List.length_range] at hl
    rw [List.getElem?_eq_none (by omega), List.getElem?_eq_none (by simp; omega)]
end
end Sg
set_option maxHeartbeats 4000000
namespace Sg
open PySem PySem.Spec PyProof.Rows L2 Evl
section
variable {K : PySem.W.Frag} {σ : L2.St} {H H' : Hp} {ta tb tc te : TE} {t : TT} {x y v u : V} {n : Nat} {R : V → Hp → Prop} {P : List V → Hp → Prop} {D : Ends} {tu tw tz : TS}
theorem as_range {α β : Type} (l : List α) (d : α) (c : α → β) : l.map c = (List.range l.length).map fun i => c (l.getD i d) := by
  apply List.ext_getElem?
  intro i
  rw [List.getElem?_map, List.getElem?_map]
  by_cases hi : i < l.length
  · rw [List.getElem?_range hi, List.getElem?_eq_getElem hi, Option.map_some, Option.map_some, List.getD_eq_getElem?_getD, List.getElem?_eq_getElem hi]; rfl
  · rw [List.getElem?_eq_none (by omega), List.getElem?_eq_none (by simp; omega)]; rfl
theorem e_allR {b : Nat → Bool} (h : EvL ta σ H ((List.range n).map fun i => V.bl (b i))) : Ev (tCB (rAll K) (tCons ta tNil)) σ H (.bl ((List.range n).all b)) := by
  have e : ((List.range n).map fun i => V.bl (b i)) = ((List.range n).map b).map V.bl := by rw [List.map_map]; rfl
  rw [e] at h
  have h2 := e_all (K := K) h
  rw [List.all_map] at h2
  exact h2
theorem e_allT (h : EvL ta σ H ((List.range n).map fun _ => V.bl true)) : Ev (tCB (rAll K) (tCons ta tNil)) σ H (.bl true) := by
  have h2 := e_allR (K := K) h
  have e : ((List.range n).all fun _ => true) = true := List.all_eq_true.mpr fun _ _ => rfl
  rw [e] at h2
  exact h2
theorem e_allT2 {α : Type} (d : α) {ls : List α} (h : EvN ta σ H (fun xs _ => Paired (fun v (_ : α) => v = V.bl true) xs ls)) : Ev (tCB (rAll K) (tCons ta tNil)) σ H (.bl true) := by
  have h' := EvL.of (h.imp fun xs _ _ r => pair_eq (c := fun _ => V.bl true) r)
  rw [as_range _ d] at h'
  exact e_allT h'
theorem e_sumR {f : Nat → Int} (h : EvL ta σ H ((List.range n).map fun i => V.int (f i))) : Ev (tCB (rSum K) (tCons ta tNil)) σ H (.int ((List.range n).map f).sum) := by
  have e : ((List.range n).map fun i => V.int (f i)) = ((List.range n).map f).map V.int := by rw [List.map_map]; rfl
  rw [e] at h
  exact e_sum h
theorem e_tup1 (ha : Ev ta σ H u) : EvP (tTup (tCons ta tNil)) σ H (fun z H' => ∃ a, z = .ref a ∧ H' a = some (.tup [u])) := fun H1 e Q q =>
  ha H1 e _ fun H2 e2 => ⟨(by show 1 ≤ sizeLine; decide), fun p hp => q _ _ (e2.trans (Ex.new hp)) ⟨p, rfl, upd_same⟩⟩
theorem e_tup2 (ha : Ev ta σ H u) (hb : Ev tb σ H v) : EvP (tTup (tCons ta (tCons tb tNil))) σ H (fun z H' => ∃ a, z = .ref a ∧ H' a = some (.tup [u, v])) := fun H1 e Q q =>
  ha H1 e _ fun H2 e2 => hb H2 (e.trans e2) _ fun H3 e3 => ⟨(by show 2 ≤ sizeLine; decide), fun p hp => q _ _ ((e2.trans e3).trans (Ex.new hp)) ⟨p, rfl, upd_same⟩⟩
theorem e_rng {n : Nat} (ha : Ev ta σ H (.int (n : Int))) : EvP (tCB (fun vs H Q => ∃ j, vs = [V.int j] ∧ ∀ p, H p = none → Q (.ref p) (upd H p (.rng 0 j))) (tCons ta tNil)) σ H (fun z H' => ∃ a, z = .ref a ∧ H' a = some (.rng 0 (n : Int))) := fun H1 e Q q =>
  ha H1 e _ fun H2 e2 => ⟨_, rfl, fun p hp => q _ _ (e2.trans (Ex.new hp)) ⟨p, rfl, upd_same⟩⟩
/-- statements by a word of what an expression gives -/
theorem s_asgP {i : Nat} (h : EvP te σ H R) (k : ∀ v H1, Ex H H1 → R v H1 → D.nx (σ.set i (some v)) H1) : tAsg te (gName i) D σ H := h H (Ex.refl H) _ fun v H1 e r => k v H1 e r
theorem q_asgP {i : Nat} (h : EvP te σ H R) (k : ∀ v H1, Ex H H1 → R v H1 → tz D (σ.set i (some v)) H1) : tSeq (tAsg te (gName i)) tz D σ H := s_asgP (D := { D with nx := tz D }) h k
theorem q_asgN {i : Nat} (h : EvN te σ H P) (k : ∀ p xs H1, H p = none → Ex H H1 → H1 p = some (.lst xs) → P xs H1 → tz D (σ.set i (some (.ref p))) H1) : tSeq (tAsg te (gName i)) tz D σ H := h H (Ex.refl H) _ fun p xs H1 hp e h1 r => k p xs H1 hp e h1 r
theorem s_retP (h : EvP te σ H R) (k : ∀ v H1, Ex H H1 → R v H1 → D.rt v H1) : tRet te D σ H := h H (Ex.refl H) _ k
theorem s_retN (h : EvN te σ H P) (k : ∀ p xs H1, H p = none → Ex H H1 → H1 p = some (.lst xs) → P xs H1 → D.rt (.ref p) H1) : tRet te D σ H := h H (Ex.refl H) _ k
theorem q_dropP (h : EvP te σ H R) (k : ∀ v H1, Ex H H1 → R v H1 → tz D σ H1) : tSeq (tDrop te) tz D σ H := h H (Ex.refl H) _ k
theorem q_for {wi : TI} {g : TG} {n : Nat} {τ : Nat → L2.St → L2.St} (T : Turns wi g σ H n τ) (Pv : Hp → Nat → L2.St → Hp → Prop) (h0 : ∀ H1, Ex H H1 → Pv H1 0 σ H1) (hG : ∀ H1 i σ' H', Ex H H1 → i ≤ n → Pv H1 i σ' H' → Ex H1 H')
    (hs : ∀ H1 i σ' H', Ex H H1 → i < n → Pv H1 i σ' H' → ∀ H5, Ex H' H5 → tu { D with nx := Pv H1 (i + 1), ct := Pv H1 (i + 1), bk := tz D } (τ i σ') H5) (hd : ∀ H1 σ' H', Ex H H1 → Pv H1 n σ' H' → tz D σ' H') : tSeq (tFor wi g tu) tz D σ H :=
  s_for (D := { D with nx := tz D }) T Pv h0 hG hs hd
/-- if .. : raise, where it is not -/
theorem s_check (h : EvT t σ H false) (k : ∀ H1, Ex H H1 → D.nx σ H1) : tIfS t tNever tNext D σ H := s_if h (fun z => by cases z) fun _ H1 e => k H1 e
theorem s_skip (h : EvT t σ H false) (k : ∀ H1, Ex H H1 → D.nx σ H1) : tIfS t tu tNext D σ H := s_if h (fun z => by cases z) fun _ H1 e => k H1 e
theorem q_skip (h : EvT t σ H false) (k : ∀ H1, Ex H H1 → tz D σ H1) : tSeq (tIfS t tu tNext) tz D σ H := s_skip (D := { D with nx := tz D }) h k
theorem s_then {t : TT} (h : EvT t σ H true) (k : ∀ H1, Ex H H1 → tu D σ H1) : tIfS t tu tw D σ H := s_if h (fun _ H1 e => k H1 e) fun z => by cases z
theorem pairR {α β γ : Type} {F : α → γ → Prop} {g : β → γ} : ∀ {xs : List α} {ls : List β}, Paired (fun v l => F v (g l)) xs ls → Paired F xs (ls.map g)
  | _, _, .nil => .nil
  | _, _, .cons r t => .cons r (pairR t)
end
theorem tn_rangeZ {σ : L2.St} {H : Hp} {ta : TA} {j : Nat} {z : Int} (h : EvA ta σ H [.int z]) (hz : -1000000 ≤ z ∧ z ≤ 1000000) : Turns (iRng1 ta) (gName j) σ H z.toNat (fun i σ => σ.set j (some (.int (i : Int)))) := fun H1 e R q =>
  h H1 e _ fun H2 e2 => ⟨z, rfl, by omega, by omega, q _ H2 e2 fun H3 e3 => ⟨fun i hi => hi, Nat.le_refl _, fun i hi x H4 y σ' Q k => by
    obtain ⟨e4, ex⟩ := y
    subst e4 ex
    have e0 : (0 : Int) + (i : Int) = (i : Int) := Int.zero_add _
    show Q (σ'.set j (some (.int ((0 : Int) + (i : Int))))) H4
    rw [e0]
    exact k H4 (Ex.refl _)⟩⟩
/-! ### the ties of a web, in their sequence -/
def tiesL (n : Nat) (w : Wf) : List (Nat × Nat) := (lab2 n (fun i => n - (i + 1)) (fun i j => !decide (w i (i + 1 + j) = 0))).map fun l => (l.1, l.1 + 1 + l.2)
theorem mem_lab2 {n : Nat} {m : Nat → Nat} {f : Nat → Nat → Bool} {l : Nat × Nat} : l ∈ lab2 n m f ↔ l.1 < n ∧ l.2 < m l.1 ∧ f l.1 l.2 = true := by
  unfold lab2
  rw [List.mem_flatMap]
  constructor
  · rintro ⟨i, hi, h⟩
    obtain ⟨j, hj, rfl⟩ := List.mem_map.mp h
    obtain ⟨h1, h2⟩ := List.mem_filter.mp hj
    exact ⟨List.mem_range.mp hi, List.mem_range.mp h1, h2⟩
  · rintro ⟨h1, h2, h3⟩
    exact ⟨l.1, List.mem_range.mpr h1, List.mem_map.mpr ⟨l.2, List.mem_filter.mpr ⟨List.mem_range.mpr h2, h3⟩, rfl⟩⟩
theorem mem_ties {n : Nat} {w : Wf} {x y : Nat} : (x, y) ∈ tiesL n w ↔ x < y ∧ y < n ∧ w x y ≠ 0 := by
  unfold tiesL
  rw [List.mem_map]
  constructor
  · rintro ⟨⟨i, j⟩, h, e⟩
    obtain ⟨h1, h2, h3⟩ := mem_lab2.mp h
    simp only [Prod.mk.injEq] at e
    obtain ⟨rfl, rfl⟩ := e
    simp only at h1 h2 h3
    refine ⟨by omega, by omega, ?_⟩
    intro z
    rw [z] at h3
    simp at h3
  · rintro ⟨h1, h2, h3⟩
    refine ⟨(x, y - (x + 1)), mem_lab2.mpr ⟨by simp only; omega, by simp only; omega, ?_⟩, ?_⟩
    · simp only
      rw [show x + 1 + (y - (x + 1)) = y by omega]
      simp [h3]
    · simp only
      rw [show x + 1 + (y - (x + 1)) = y by omega]
theorem ties_at {n : Nat} {w : Wf} {k : Nat} (hk : k < (tiesL n w).length) : ((tiesL n w).getD k (0, 0)).1 < ((tiesL n w).getD k (0, 0)).2 ∧ ((tiesL n w).getD k (0, 0)).2 < n ∧ w ((tiesL n w).getD k (0, 0)).1 ((tiesL n w).getD k (0, 0)).2 ≠ 0 := by
  have h : (tiesL n w).getD k (0, 0) ∈ tiesL n w := by
    rw [List.getD_eq_getElem?_getD, List.getElem?_eq_getElem hk]
    exact List.getElem_mem hk
  exact mem_ties.mp h
theorem ties_len (n : Nat) (w : Wf) (hn : n ≤ 10) : (tiesL n w).length ≤ 100 := by
  unfold tiesL lab2
  rw [List.length_map, List.length_flatMap]
  have key : ∀ l : List Nat, (∀ i ∈ l, (((List.range (n - (i + 1))).filter fun j => !decide (w i (i + 1 + j) = 0)).map fun j => (i, j)).length ≤ 10) → (l.map fun i => (((List.range (n - (i + 1))).filter fun j => !decide (w i (i + 1 + j) = 0)).map fun j => (i, j)).length).sum ≤ 10 * l.length := by
    intro l
    induction l with
    | nil => intro _; simp
    | cons a l ih =>
      intro h
      have h1 := h a List.mem_cons_self
      have h2 := ih fun i hi => h i (List.mem_cons_of_mem _ hi)
      rw [List.map_cons, List.sum_cons, List.length_cons]
      omega
  have h := key (List.range n) fun i _ => by
    rw [List.length_map]
    refine Nat.le_trans (List.length_filter_le _ _) ?_
    rw [List.length_range]
    omega
  rw [List.length_range] at h
  exact Nat.le_trans h (by omega)
end Sg
set_option maxHeartbeats 4000000
namespace Sg
open PySem PySem.Spec PyProof.Rows L2 Evl
def IsT (xs : List V) : V → Hp → Prop := fun v H => ∃ a, v = .ref a ∧ H a = some (.tup xs)
theorem IsT.mt {xs : List V} : MonoT (IsT xs) := fun v H H' e ⟨a, h1, h2⟩ => ⟨a, h1, e _ _ h2⟩
section
variable {K : PySem.W.Frag} {σ : L2.St} {H H' : Hp} {ta tb tc te : TE} {t : TT} {x y v u : V} {n m : Nat} {R : V → Hp → Prop} {P : List V → Hp → Prop} {D : Ends} {tu tw tz : TS} {xs ys : List V}
theorem EvP.tup {a : Addr} (h : Ev te σ H (.ref a)) (ha : H a = some (.tup xs)) : EvP te σ H (IsT xs) := fun H1 e Q q => h H1 e _ fun H2 e2 => q _ H2 e2 ⟨a, rfl, (e.trans e2) _ _ ha⟩
theorem EvP.isT (h : EvP te σ H (TupP fun ys _ => ys = xs)) : EvP te σ H (IsT xs) := h.imp fun v H' _ ⟨p, ys, a, b, c⟩ => ⟨p, a, by rw [b, c]⟩
theorem e_repS (h : EvP te σ H (IsT [u])) (hb : Ev tb σ H (.int (m : Int))) (hm : 1 ≤ m ∧ m ≤ 1000) : EvP (tOp (rRepS K) te tb) σ H (IsT (List.replicate m u)) := fun H1 e Q q =>
  h H1 e _ fun v H2 e2 ⟨a, ev, ha⟩ => hb H2 (e.trans e2) _ fun H3 e3 => by
    refine ⟨a, m, u, ev, rfl, st_of (e3 _ _ ha), by omega, by omega, fun h1 => ?_, fun h2 p hp => ?_⟩
    · have : m = 1 := by omega
      subst this
      exact q _ H3 (e2.trans e3) ⟨a, rfl, e3 _ _ ha⟩
    · exact q _ _ ((e2.trans e3).trans (Ex.new hp)) ⟨p, rfl, upd_same⟩
theorem e_catA (ha : EvP ta σ H (IsT xs)) (hb : EvP tb σ H (IsT ys)) (hz : xs.length + ys.length ≤ 1000) : EvP (tOp (rCatA K) ta tb) σ H (IsT (xs ++ ys)) := fun H1 e Q q =>
  ha H1 e _ fun v H2 e2 ⟨a, ev, h1⟩ => hb H2 (e.trans e2) _ fun w H3 e3 ⟨b, ew, h2⟩ => by
    refine ⟨a, b, xs, ys, ev, ew, st_of (e3 _ _ h1), st_of h2, sz_of (by omega), fun hx => ?_, fun hx hy => ?_, fun hx hy p hp => ?_⟩
    · exact q _ H3 (e2.trans e3) ⟨b, rfl, by rw [h2, hx]; rfl⟩
    · exact q _ H3 (e2.trans e3) ⟨a, rfl, by rw [e3 _ _ h1, hy, List.append_nil]⟩
    · exact q _ _ ((e2.trans e3).trans (Ex.new hp)) ⟨p, rfl, upd_same⟩
theorem n_cat {a : Addr} (ha : Ev ta σ H (.ref a)) (h1 : H a = some (.lst xs)) (hb : EvN tb σ H P) (m : Mono P) (hz : xs.length ≤ 1000 ∧ ∀ zs H', P zs H' → zs.length ≤ 1000) : EvN (tOp rCat ta tb) σ H (fun ys H' => ∃ zs, ys = xs ++ zs ∧ P zs H') := fun H1 e Q q =>
  ha H1 e _ fun H2 e2 => hb H2 (e.trans e2) _ fun b zs H3 _ e3 h3 r => ⟨a, b, xs, zs, rfl, rfl, ((e.trans e2).trans e3) _ _ h1, h3, sz_of (by have := hz.1; have := hz.2 _ _ r; omega), fun p hp =>
    q p _ _ (fresh_back (e2.trans e3) hp) ((e2.trans e3).trans (Ex.new hp)) upd_same ⟨zs, rfl, m _ _ _ (Ex.new hp) r⟩⟩
/-- if many > 10 -/
theorem c_call1P {sp : Sp} {E : XK} {Ra : V → Hp → Prop} (h : EvP ta σ H Ra) (hs : ∀ v H1, Ex H H1 → Ra v H1 → ∀ Q : VK, (∀ v H2, Ex H1 H2 → R v H2 → Q v H2) → sp [v] H1 Q E) : EvP (tCall sp [] E (tCons ta tNil)) σ H R := fun H1 e Q q =>
  h H1 e _ fun v H2 e2 r => hs v H2 (e.trans e2) r Q fun v H3 e3 r3 => q v H3 (e2.trans e3) r3
theorem c_call2P {sp : Sp} {E : XK} {Rb : V → Hp → Prop} (ha : Ev ta σ H x) (hb : EvP tb σ H Rb) (hs : ∀ v H1, Ex H H1 → Rb v H1 → ∀ Q : VK, (∀ v H2, Ex H1 H2 → R v H2 → Q v H2) → sp [x, v] H1 Q E) : EvP (tCall sp [] E (tCons ta (tCons tb tNil))) σ H R := fun H1 e Q q =>
  ha H1 e _ fun H2 e2 => hb H2 (e.trans e2) _ fun v H3 e3 r => hs v H3 ((e.trans e2).trans e3) r Q fun v H4 e4 r4 => q v H4 ((e2.trans e3).trans e4) r4
end
theorem pairA {α β : Type} {F : α → β → Prop} : ∀ {xs zs : List α} {ls ms : List β}, Paired F xs ls → Paired F zs ms → Paired F (xs ++ zs) (ls ++ ms)
  | _, _, _, _, .nil, h => h
  | _, _, _, _, .cons r t, h => .cons r (pairA t h)
theorem range_add' (n m : Nat) : List.range (n + m) = List.range n ++ (List.range m).map fun i => n + i := List.range_add ..
/-- rows put beside one another -/
theorem row_app {n m : Nat} {f g : Nat → V} : (List.range n).map f ++ (List.range m).map g = (List.range (n + m)).map fun j => if j < n then f j else g (j - n) := by
  rw [range_add', List.map_append, List.map_map]
  congr 1
  · exact List.map_congr_left fun j hj => by rw [if_pos (List.mem_range.mp hj)]
  · refine List.map_congr_left fun j hj => ?_
    show g j = if n + j < n then f (n + j) else g (n + j - n)
    rw [if_neg (by omega), Nat.add_sub_cancel_left]
theorem rep_row (m : Nat) (u : V) : List.replicate m u = (List.range m).map fun _ => u := by
  apply List.ext_getElem?
  intro i
  by_cases hi : i < m
  · rw [at_map hi, List.getElem?_replicate, if_pos hi]
  · rw [List.getElem?_eq_none (by simp; omega), List.getElem?_eq_none (by simp; omega)]
/-- two parts of rows, one below the other -/
theorem web_two {n m : Nat} {w : Wf} {xs zs : List V} {H : Hp} {a : Addr} (ha : H a = some (.tup (xs ++ zs))) (h1 : Paired (fun v i => IsT ((List.range (n + m)).map fun j => V.int (w i j)) v H) xs (List.range n))
    (h2 : Paired (fun v i => IsT ((List.range (n + m)).map fun j => V.int (w (n + i) j)) v H) zs (List.range m)) : WebAt a (n + m) w H := by
  refine web_of ha ?_
  have e : List.range (n + m) = List.range n ++ (List.range m).map fun i => n + i := range_add' n m
  refine (fun z : Paired (fun v i => IsT ((List.range (n + m)).map fun j => V.int (w i j)) v H) (xs ++ zs) (List.range n ++ (List.range m).map fun i => n + i) => by rw [← e] at z; exact z) ?_
  exact pairA h1 (pairR (F := fun v i => ∃ r, v = V.ref r ∧ H r = some (.tup ((List.range (n + m)).map fun j => V.int (w i j)))) h2)
/-! ### what joined_all and put_in make -/
def joinW (n : Nat) (w o : Wf) (s : Int) : Wf := fun i j => if i < n then (if j < n then w i j else s) else (if j < n then s else o (i - n) (j - n))
def skp (p i : Nat) : Nat := if i < p then i else i + 1
def putW (n p : Nat) (w o : Wf) : Wf := fun i j => if i < n - 1 then (if j < n - 1 then w (skp p i) (skp p j) else w (skp p i) p) else (if j < n - 1 then w p (skp p j) else o (i - (n - 1)) (j - (n - 1)))
theorem skp_lt {n p i : Nat} (hp : p < n) (hi : i < n - 1) : skp p i < n ∧ skp p i ≠ p := by
  unfold skp
  split <;> omega
theorem filter_skp {n p : Nat} (hp : p < n) : (List.range n).filter (fun i => !decide (i = p)) = (List.range (n - 1)).map (skp p) := by
  obtain ⟨k, rfl⟩ : ∃ k, n = p + (1 + k) := ⟨n - p - 1, by omega⟩
  have e0 : p + (1 + k) - 1 = p + k := by omega
  rw [e0, range_add' p (1 + k), range_add' p k, List.filter_append, List.map_append, List.map_map, range_add' 1 k, List.map_append, List.filter_append, List.map_map]
  have e1 : (List.range p).filter (fun i => !decide (i = p)) = List.range p := List.filter_eq_self.mpr fun i hi => by
    have := List.mem_range.mp hi
    rw [decide_eq_false (by omega)]; rfl
  have e2 : (List.range p).map (skp p) = (List.range p).map id := List.map_congr_left fun i hi => by
    unfold skp
    rw [if_pos (List.mem_range.mp hi)]; rfl
  have e3 : ((List.range 1).map fun i => p + i).filter (fun i => !decide (i = p)) = [] := by
    show List.filter (fun i => !decide (i = p)) [p + 0] = []
    simp
  have e4 : (((List.range k).map ((fun i => p + i) ∘ fun i => 1 + i)).filter fun i => !decide (i = p)) = (List.range k).map ((fun i => p + i) ∘ fun i => 1 + i) := List.filter_eq_self.mpr fun i hi => by
    obtain ⟨j, _, rfl⟩ := List.mem_map.mp hi
    simp only [Function.comp]
    rw [decide_eq_false (by omega)]; rfl
  rw [e1, e2, e3, e4, List.map_id, List.nil_append]
  congr 1
  refine List.map_congr_left fun j _ => ?_
  simp only [Function.comp]
  unfold skp
  rw [if_neg (by omega)]
  omega
end Sg
set_option maxHeartbeats 4000000
namespace Sg
open PySem PySem.Spec PyProof.Rows L2 Evl
section
variable {K : PySem.W.Frag} {σ : L2.St} {H H' : Hp} {ta tb tc te : TE} {t : TT} {x y v u : V} {n m : Nat} {R : V → Hp → Prop} {P : List V → Hp → Prop} {D : Ends} {tu tw tz : TS} {xs ys : List V} {a : Addr}
theorem atI_last2 (xs : List V) (u v : V) : atI (xs ++ [u, v]) (-2) = some u := by
  have e : ixN (xs ++ [u, v]).length (-2) = some xs.length := by
    unfold ixN
    rw [if_neg (by decide), List.length_append, if_pos (by simp; omega)]
    congr 1
    simp
    omega
  unfold atI
  rw [e]
  simp
theorem e_last (ha : Ev ta σ H (.ref a)) (h : H a = some (.lst (xs ++ [v]))) : Ev (tOp (rIxL K) ta (tUn (rU fun i => .int (-i)) (tC (.int 1)))) σ H v :=
  ev_op ha (e_neg ev_c) (rv_ixL (sq_of h) (atI_last xs v))
theorem e_last2 (ha : Ev ta σ H (.ref a)) (h : H a = some (.lst (xs ++ [u, v]))) : Ev (tOp (rIxL K) ta (tUn (rU fun i => .int (-i)) (tC (.int 2)))) σ H u :=
  ev_op ha (e_neg ev_c) (rv_ixL (sq_of h) (atI_last2 xs u v))
/-- xs.pop() as a value -/
theorem w_pop {i : Nat} {Q : VK} (hs : σ[i]? = some (some (.ref a))) (h : H a = some (.lst (xs ++ [v]))) (q : Q v (upd H a (.lst xs))) : tBM0 K "list" rPop (tVar i) σ H Q := by
  refine ⟨.ref a, hs, .inl ⟨rfl, _, sq_of h⟩, a, xs ++ [v], v, rfl, rfl, h, by simp, ?_⟩
  rw [List.dropLast_concat]
  exact q
theorem q_pop {i : Nat} (hs : σ[i]? = some (some (.ref a))) (h : H a = some (.lst (xs ++ [v]))) (k : tz D σ (upd H a (.lst xs))) : tSeq (tDrop (tBM0 K "list" rPop (tVar i))) tz D σ H := w_pop hs h k
theorem s_pop {i : Nat} (hs : σ[i]? = some (some (.ref a))) (h : H a = some (.lst (xs ++ [v]))) (k : D.nx σ (upd H a (.lst xs))) : tDrop (tBM0 K "list" rPop (tVar i)) D σ H := w_pop hs h k
theorem q_popv {i j : Nat} (hs : σ[i]? = some (some (.ref a))) (h : H a = some (.lst (xs ++ [v]))) (k : tz D (σ.set j (some v)) (upd H a (.lst xs))) : tSeq (tAsg (tBM0 K "list" rPop (tVar i)) (gName j)) tz D σ H := w_pop hs h k
theorem s_asgG {g : TG} (h : EvP te σ H R) (k : ∀ v H1, Ex H H1 → R v H1 → g v σ H1 D.nx) : tAsg te g D σ H := h H (Ex.refl H) _ fun v H1 e r => k v H1 e r
theorem q_asgG {g : TG} (h : EvP te σ H R) (k : ∀ v H1, Ex H H1 → R v H1 → g v σ H1 (tz D)) : tSeq (tAsg te g) tz D σ H := h H (Ex.refl H) _ fun v H1 e r => k v H1 e r
theorem n_rep {l : List V} (h : EvL ta σ H l) (hb : Ev tb σ H (.int (m : Int))) (hm : m ≤ 1000 ∧ l.length ≤ 10) : EvL (tOp rRep ta tb) σ H (List.replicate m l).flatten := fun H1 e Q q =>
  h H1 e _ fun p H2 hp e2 h2 => hb H2 (e.trans e2) _ fun H3 e3 => ⟨p, (m : Int), l, rfl, rfl, e3 _ _ h2, by omega, by omega, sz_of (by
    have : l.length * m ≤ 10 * 1000 := Nat.mul_le_mul hm.2 hm.1
    rw [Int.toNat_natCast]
    omega), fun d hd => q d _ (fresh_back (e2.trans e3) hd) ((e2.trans e3).trans (Ex.new hd)) (by rw [Int.toNat_natCast]; exact upd_same)⟩
theorem n_rep1 (h : Ev ta σ H u) (hb : Ev tb σ H (.int (m : Int))) (hm : m ≤ 1000) : EvL (tOp rRep (tLst (tCons ta tNil)) tb) σ H ((List.range m).map fun _ => u) := by
  have r := n_rep (el_lst (ea_cons h ea_nil) (by simp)) hb ⟨hm, by simp⟩
  rw [show (List.replicate m [u]).flatten = List.replicate m u from flat_rep m u, rep_row] at r
  exact r
theorem q_par2 {i j : Nat} {P' : List V → Hp → Prop} (ha : EvN ta σ H P) (hb : EvN tb σ H P') (k : ∀ p q xs ys H1, H p = none → H q = none → p ≠ q → Ex H H1 → H1 p = some (.lst xs) → H1 q = some (.lst ys) → (∃ H2, P xs H2) → P' ys H1 → tz D ((σ.set i (some (.ref p))).set j (some (.ref q))) H1) : tSeq (tPar i j (tCons ta (tCons tb tNil))) tz D σ H :=
  ha H (Ex.refl _) _ fun p xs H1 hp e1 h1 r1 => hb H1 e1 _ fun q ys H2 hq e2 h2 r2 => ⟨_, _, rfl, k p q xs ys H2 hp (fresh_back e1 hq) (ne_of_none h1 hq) (e1.trans e2) (e2 _ _ h1) h2 ⟨_, r1⟩ r2⟩
theorem e_ifN {b : Bool} (h : EvT t σ H b) (h1 : b = true → EvN ta σ H P) (h2 : b = false → EvN tb σ H P) : EvN (tIf t ta tb) σ H P := fun H1 e Q q => h H1 e _ fun H2 e2 => by
  cases b with
  | true =>
    refine iteT ?_
    exact h1 rfl H2 (e.trans e2) Q fun p xs H3 hp e3 h3 r => q p xs H3 (fresh_back e2 hp) (e2.trans e3) h3 r
  | false =>
    refine iteF ?_
    exact h2 rfl H2 (e.trans e2) Q fun p xs H3 hp e3 h3 r => q p xs H3 (fresh_back e2 hp) (e2.trans e3) h3 r
theorem e_ifP {b : Bool} (h : EvT t σ H b) (h1 : b = true → EvP ta σ H R) (h2 : b = false → EvP tb σ H R) : EvP (tIf t ta tb) σ H R := fun H1 e Q q => h H1 e _ fun H2 e2 => by
  cases b with
  | true =>
    refine iteT ?_
    exact h1 rfl H2 (e.trans e2) Q fun v H3 e3 r => q v H3 (e2.trans e3) r
  | false =>
    refine iteF ?_
    exact h2 rfl H2 (e.trans e2) Q fun v H3 e3 r => q v H3 (e2.trans e3) r
theorem e_orI {i j : Int} (ha : Ev ta σ H (.int i)) (hb : Ev tb σ H (.int j)) : Ev (tOrT K ta tb) σ H (.int (if i = 0 then j else i)) := fun H1 e Q q => ha H1 e _ fun H2 e2 => ⟨(i != 0), rfl, by
  by_cases h : i = 0
  · subst h
    refine iteF ?_
    exact hb H2 (e.trans e2) Q fun H3 e3 => q H3 (e2.trans e3)
  · have hb : (i != 0) = true := by simp [h]
    rw [hb]
    refine iteT ?_
    have := q H2 e2
    rw [if_neg h] at this
    exact this⟩
theorem et_truthL (ha : Ev ta σ H (.ref a)) (h : H a = some (.lst xs)) : EvT (tTruth K ta) σ H (!xs.isEmpty) := fun H1 e Q q => ha H1 e _ fun H2 e2 => ⟨_, .inl ⟨xs, sq_of ((e.trans e2) _ _ h), rfl⟩, q H2 e2⟩
theorem set_map {α : Type} {n k : Nat} {f : Nat → α} {c : α → V} {z : α} (hk : k < n) : ((List.range n).map fun i => c (f i)).set k (c z) = (List.range n).map fun i => c (set1 f k z i) := by
  apply List.ext_getElem?
  intro i
  rw [List.getElem?_set]
  by_cases hi : i < n
  · rw [at_map hi]
    by_cases e : k = i
    · subst e
      rw [if_pos rfl, if_pos (by simp; exact hi), at_map hi, set1_same]
    · rw [if_neg e, at_map hi, set1_ne (fun z => e z.symm)]
  · rw [if_neg (by omega), List.getElem?_eq_none (by simp; omega), List.getElem?_eq_none (by simp; omega)]
/-- a call with one argument, a new list -/
theorem c_call1N {sp : Sp} {E : XK} (h : EvN ta σ H P) (hs : ∀ p xs H1, H p = none → Ex H H1 → H1 p = some (.lst xs) → P xs H1 → ∀ Q : VK, (∀ v H2, Ex H1 H2 → R v H2 → Q v H2) → sp [.ref p] H1 Q E) : EvP (tCall sp [] E (tCons ta tNil)) σ H R := fun H1 e Q q =>
  h H1 e _ fun p xs H2 hp e2 h2 r => hs p xs H2 (fresh_back e hp) (e.trans e2) h2 r Q fun v H3 e3 r3 => q v H3 (e2.trans e3) r3
end
def pv? : Option Nat → V
  | none => .non
  | some q => .int (q : Int)
theorem pv_non (o : Option Nat) : decide (pv? o = V.non) = o.isNone := by
  cases o <;> rfl
theorem first_at : ∀ {l : List Int} {z : Int}, z ∈ l → ∃ j : Nat, l[j]? = some z ∧ ∀ i : Nat, i < j → l[i]? ≠ some z
  | [], z, h => by cases h
  | a :: l, z, h => by
    by_cases e : a = z
    · exact ⟨0, by rw [e]; rfl, fun i hi => by omega⟩
    · have h2 : z ∈ l := (List.mem_cons.mp h).resolve_left fun q => e q.symm
      obtain ⟨j, h3, h4⟩ := first_at h2
      refine ⟨j + 1, h3, fun i hi => ?_⟩
      cases i with
      | zero => intro q; exact e (Option.some.inj q)
      | succ i => exact h4 i (by omega)
/-- row.index(min(row)) -/
theorem e_ixmin {K : PySem.W.Frag} {σ : L2.St} {H : Hp} {a : Addr} {ns : List Int} {i : Nat} (hs : σ[i]? = some (some (.ref a))) (ha : H a = some (.lst (ns.map V.int))) (hn : 0 < ns.length) :
    EvP (tBM K "list" (rIndex K) (tVar i) (tCons (tCB (rMin K) (tCons (tVar i) tNil)) tNil)) σ H (fun v _ => ∃ j : Nat, v = .int (j : Int) ∧ j < ns.length) := fun H1 e Q q => by
  have h1 := e _ _ ha
  refine ⟨.ref a, hs, .inl ⟨rfl, _, sq_of h1⟩, .ref a, hs, a, ns, rfl, sq_of h1, hn, fun m hm _ => ?_⟩
  obtain ⟨j, hj, hno⟩ := first_at hm
  refine ⟨a, _, .int m, j, .int m, rfl, rfl, sq_of h1, rfl, flat_ints ns, by rw [List.getElem?_map, hj]; rfl, by show (m == m) = true; simp, fun k z hk hz => ?_, q _ H1 (Ex.refl _) ⟨j, rfl, (List.getElem?_eq_some_iff.mp hj).1⟩⟩
  rw [List.getElem?_map] at hz
  cases hk2 : ns[k]? with
  | none => rw [hk2] at hz; cases hz
  | some y =>
    rw [hk2] at hz
    cases hz
    have : y ≠ m := fun z => hno k hk (by rw [hk2, z])
    show (y == m) = false
    simp [this]
theorem cut_ints (ns : List Int) (lo hi : Option Int) : ∃ ms : List Int, cutV (ns.map V.int) lo hi = ms.map V.int ∧ ms.length = (cutV (ns.map V.int) lo hi).length := by
  refine ⟨(ns.drop (HT.sIx (ns.map V.int).length 0 lo)).take (HT.sIx (ns.map V.int).length (ns.map V.int).length hi - HT.sIx (ns.map V.int).length 0 lo), ?_, ?_⟩
  · unfold cutV
    rw [List.map_take, List.map_drop]
  · unfold cutV
    rw [← List.map_drop, ← List.map_take, List.length_map, List.length_map]
theorem cut_hi {xs : List V} {j : Nat} (hj : j ≤ xs.length) : (cutV xs (some (j : Int)) none).length = xs.length - j := by
  unfold cutV
  rw [HT.sIx_nat, HT.sIx_none, List.length_take, List.length_drop]
  omega
theorem cut_lo {xs : List V} {j : Nat} (hj : j ≤ xs.length) : (cutV xs none (some (j : Int))).length = j := by
  unfold cutV
  rw [HT.sIx_nat, HT.sIx_none, List.length_take, List.length_drop]
  omega
/-- some tuple, not too long -/
def IsSomeT (k : Nat) : V → Hp → Prop := fun v H => ∃ a xs, v = .ref a ∧ H a = some (.tup xs) ∧ xs.length ≤ k
section
variable {K : PySem.W.Frag} {σ : L2.St} {H H' : Hp} {ta tb tc te : TE} {k l : Nat} {xs : List V} {a : Addr}
theorem e_catS (ha : EvP ta σ H (IsSomeT k)) (hb : EvP tb σ H (IsSomeT l)) (hz : k + l ≤ 1000) : EvP (tOp (rCatA K) ta tb) σ H (IsSomeT (k + l)) := fun H1 e Q q =>
  ha H1 e _ fun v H2 e2 ⟨a, xs, ev, h1, l1⟩ => hb H2 (e.trans e2) _ fun w H3 e3 ⟨b, ys, ew, h2, l2⟩ => by
    refine ⟨a, b, xs, ys, ev, ew, st_of (e3 _ _ h1), st_of h2, sz_of (by omega), fun hx => ?_, fun hx hy => ?_, fun hx hy p hp => ?_⟩
    · exact q _ H3 (e2.trans e3) ⟨b, ys, rfl, h2, by omega⟩
    · exact q _ H3 (e2.trans e3) ⟨a, xs, rfl, e3 _ _ h1, by omega⟩
    · exact q _ _ ((e2.trans e3).trans (Ex.new hp)) ⟨p, _, rfl, upd_same, by rw [List.length_append]; omega⟩
theorem e_slS {tl th : TO} {lo hi : Option Int} (h : Ev te σ H (.ref a)) (ha : H a = some (.tup xs)) (h1 : EvO tl σ H lo) (h2 : EvO th σ H hi) (hk : xs.length ≤ k) : EvP (tSl (rSlA K) te tl th) σ H (IsSomeT k) := fun H1 e Q q =>
  h H1 e _ fun H2 e2 => h1 H2 (e.trans e2) _ fun H3 e3 => h2 H3 ((e.trans e2).trans e3) _ fun H4 e4 =>
    ⟨a, xs, rfl, st_of ((((e.trans e2).trans e3).trans e4) _ _ ha), fun _ => q _ H4 ((e2.trans e3).trans e4) ⟨a, xs, rfl, (((e.trans e2).trans e3).trans e4) _ _ ha, hk⟩,
      fun _ p hp => q _ _ (((e2.trans e3).trans e4).trans (Ex.new hp)) ⟨p, _, rfl, upd_same, Nat.le_trans (cutV_length _ _ _) hk⟩⟩
theorem e_backS (h : Ev te σ H (.ref a)) (ha : H a = some (.tup xs)) {th : TO} (h2 : EvO th σ H (some 0)) (hx : 2 ≤ xs.length) (hk : xs.length ≤ k) : EvP (tBackT K te th) σ H (IsSomeT k) := fun H1 e Q q =>
  h H1 e _ fun H2 e2 => h2 H2 (e.trans e2) _ fun H3 e3 => ⟨a, xs, rfl, rfl, st_of (((e.trans e2).trans e3) _ _ ha), hx, fun p ys hl hp => q _ _ ((e2.trans e3).trans (Ex.new hp)) ⟨p, _, rfl, upd_same, by omega⟩⟩
theorem n_backL (h : Ev te σ H (.ref a)) (ha : H a = some (.lst xs)) {tl : TO} (h2 : EvO tl σ H (some (-2))) (hx : xs ≠ []) : EvL (tBackL K te tl) σ H xs.dropLast.reverse := fun H1 e Q q =>
  h H1 e _ fun H2 e2 => h2 H2 (e.trans e2) _ fun H3 e3 => ⟨a, xs, rfl, rfl, sq_of (((e.trans e2).trans e3) _ _ ha), hx, fun p hp => q p _ (fresh_back (e2.trans e3) hp) ((e2.trans e3).trans (Ex.new hp)) upd_same⟩
end
end Sg
set_option maxHeartbeats 4000000
namespace Sg
open PySem PySem.Spec PyProof.Rows L2 Evl
local macro_rules | `(tactic| walk_at "ev") => `(tactic| first
  | exact ev_c
  | exact ev_var rfl
  | assumption
  | refine e_neg (by walk_at "ev")
  | refine e_add (by walk_at "ev") (by walk_at "ev")
  | refine e_sub (by walk_at "ev") (by walk_at "ev")
  | refine e_web (by assumption) (by walk_at "ev") (by walk_at "ev") (by walk_at "ev") rfl rfl (by omega) (by omega)
  | refine e_lenW (by assumption) (by walk_at "ev")
  | refine e_eq (by walk_at "ev") (by walk_at "ev")
  | refine e_ne (by walk_at "ev") (by walk_at "ev")
  | refine e_lt (by walk_at "ev") (by walk_at "ev")
  | refine e_le (by walk_at "ev") (by walk_at "ev")
  | refine e_gt (by walk_at "ev") (by walk_at "ev")
  | refine e_ge (by walk_at "ev") (by walk_at "ev")
  | refine e_isN (by walk_at "ev")
  | refine e_notN (by walk_at "ev"))
section
variable {P : Program} {w : World} {K : PySem.W.Frag} {mg : Str → Option Value} {base : Heap}
def sp_is_integer : Sp := fun vs H Q _ => ∃ i : Int, vs = [.int i] ∧ RetV (.bl true) H Q
theorem sc_is_integer : FnScope ["value"] ["value"] (defScope (top 9)) := ⟨rfl, rfl, rfl, by decide +kernel, rfl, by decide +kernel, by decide +kernel⟩
theorem ok_is_integer (T : Top K mg)  : Cal P w K mg base 1 "is_integer" ["value"] sp_is_integer := by
  obtain ⟨f, fd, F, gF⟩ := T.d_is_integer
  obtain ⟨tm, hmost⟩ := T.most
  refine ⟨⟨f, fd, ?_, gF, F.kp, F.bindsN fun _ _ _ _ _ _ us hl => match us, hl with | [_], _ => rfl⟩⟩
  refine F.ok sc_is_integer (fun vs H Q E h => ?_) (fun cdv A outer s H vs Q E hr h => ?_)
  · repeat (first | (obtain ⟨rfl, _⟩ := h; rfl) | (obtain ⟨_, h⟩ := h))
  unfold sp_is_integer at h
  refine (fun (z : ∃ t, PSs (cxOf CX0 P w K mg base ["value"] "is_integer" (defScope (top 9)) f cdv A outer s H E).nox (defBody (top 9)) t ∧ t { nx := fun _ H' => Q .non H', rt := Q } (L2.start ["value"] vs) H) => by
    obtain ⟨t, h1, h2⟩ := z
    exact ⟨t, h1.nox, h2⟩) ?_
  refine ⟨_, (pss_one (ps_ret (pe_and (pe_callB (cisi K) (by rfl) T.b_isinstance (by decide +kernel) (pa_cons (pv 0) (pa_cons (pe_bltn (v := .ty "int") (by rfl) T.b_int (by decide +kernel) rfl) pa_nil))) (pe_one (pe_not (pe_callB (cisi K) (by rfl) T.b_isinstance (by decide +kernel) (pa_cons (pv 0) (pa_cons (pe_bltn (v := .ty "bool") (by rfl) T.b_bool (by decide +kernel) rfl) pa_nil)))))))), ?_⟩
  obtain ⟨i, rfl, k⟩ := h
  refine s_ret (v := .bl true) (ev_is (ev_andV (a := true) (b := true) (e_isi (t := .type "int") (ev_var rfl) (fun _ _ => .base (.int i)) (kit_ty (by decide +kernel))) (fun _ => ?_)) rfl) fun H1 e1 => k H1 e1
  exact ev_is (ev_notV (a := false) (e_isi (t := .type "int") (ev_var rfl) (fun _ _ => .base (.int i)) (kit_ty (by decide +kernel)))) rfl
def sp_is_between : Sp := fun vs H Q _ => ∃ lo i hi : Int, vs = [.int lo, .int i, .int hi] ∧ RetV (.bl (decide (lo ≤ i) && decide (i ≤ hi))) H Q
theorem sc_is_between : FnScope ["low", "value", "high"] ["low", "value", "high"] (defScope (top 10)) := ⟨rfl, rfl, rfl, by decide +kernel, rfl, by decide +kernel, by decide +kernel⟩
theorem ok_is_between (T : Top K mg) (C_is_integer : Cal P w K mg base 1 "is_integer" ["value"] sp_is_integer) : Cal P w K mg base 2 "is_between" ["low", "value", "high"] sp_is_between := by
  obtain ⟨f, fd, F, gF⟩ := T.d_is_between
  obtain ⟨tm, hmost⟩ := T.most
  refine ⟨⟨f, fd, ?_, gF, F.kp, F.bindsN fun _ _ _ _ _ _ us hl => match us, hl with | [_, _, _], _ => rfl⟩⟩
  refine F.ok sc_is_between (fun vs H Q E h => ?_) (fun cdv A outer s H vs Q E hr h => ?_)
  · repeat (first | (obtain ⟨rfl, _⟩ := h; rfl) | (obtain ⟨_, h⟩ := h))
  unfold sp_is_between at h
  refine (fun (z : ∃ t, PSs (cxOf CX0 P w K mg base ["low", "value", "high"] "is_between" (defScope (top 10)) f cdv A outer s H E).nox (defBody (top 10)) t ∧ t { nx := fun _ H' => Q .non H', rt := Q } (L2.start ["low", "value", "high"] vs) H) => by
    obtain ⟨t, h1, h2⟩ := z
    exact ⟨t, h1.nox, h2⟩) ?_
  refine ⟨_, (pss_one (ps_ret (pe_and (C_is_integer.pe hr (by rfl) (pa_cons (pv 1) pa_nil)) (pe_one (pe_chain op_le op_le (pv 0) (pv 1) (pv 2)))))), ?_⟩
  obtain ⟨lo, i, hi, rfl, k⟩ := h
  refine s_ret (ev_andV (a := true) (c_callV (v := .bl true) (ea_cons (ev_var rfl) ea_nil) fun H1 e1 Q1 q => ⟨i, rfl, q⟩) (fun _ => ?_)) fun H1 e1 => k H1 e1
  exact e_chain (ev_var rfl) (ev_var rfl) rv_I0 (ev_var rfl) rv_I0
end
end Sg
set_option maxHeartbeats 4000000
namespace Sg
open PySem PySem.Spec PyProof.Rows L2 Evl
local macro_rules | `(tactic| walk_at "ev") => `(tactic| first
  | exact ev_c
  | exact ev_var rfl
  | assumption
  | refine e_neg (by walk_at "ev")
  | refine e_add (by walk_at "ev") (by walk_at "ev")
  | refine e_sub (by walk_at "ev") (by walk_at "ev")
  | refine e_web (by assumption) (by walk_at "ev") (by walk_at "ev") (by walk_at "ev") rfl rfl (by omega) (by omega)
  | refine e_lenW (by assumption) (by walk_at "ev")
  | refine e_eq (by walk_at "ev") (by walk_at "ev")
  | refine e_ne (by walk_at "ev") (by walk_at "ev")
  | refine e_lt (by walk_at "ev") (by walk_at "ev")
  | refine e_le (by walk_at "ev") (by walk_at "ev")
  | refine e_gt (by walk_at "ev") (by walk_at "ev")
  | refine e_ge (by walk_at "ev") (by walk_at "ev")
  | refine e_isN (by walk_at "ev")
  | refine e_notN (by walk_at "ev"))
section
variable {P : Program} {w : World} {K : PySem.W.Frag} {mg : Str → Option Value} {base : Heap}
def sp_is_tuple_of : Sp := fun vs H Q _ => ∃ (a : Addr) (xs : List V), vs = [.int (xs.length : Int), .ref a] ∧ H a = some (.tup xs) ∧ RetV (.bl true) H Q
theorem sc_is_tuple_of : FnScope ["many", "value"] ["many", "value"] (defScope (top 11)) := ⟨rfl, rfl, rfl, by decide +kernel, rfl, by decide +kernel, by decide +kernel⟩
theorem ok_is_tuple_of (T : Top K mg)  : Cal P w K mg base 1 "is_tuple_of" ["many", "value"] sp_is_tuple_of := by
  obtain ⟨f, fd, F, gF⟩ := T.d_is_tuple_of
  obtain ⟨tm, hmost⟩ := T.most
  refine ⟨⟨f, fd, ?_, gF, F.kp, F.bindsN fun _ _ _ _ _ _ us hl => match us, hl with | [_, _], _ => rfl⟩⟩
  refine F.ok sc_is_tuple_of (fun vs H Q E h => ?_) (fun cdv A outer s H vs Q E hr h => ?_)
  · repeat (first | (obtain ⟨rfl, _⟩ := h; rfl) | (obtain ⟨_, h⟩ := h))
  unfold sp_is_tuple_of at h
  refine (fun (z : ∃ t, PSs (cxOf CX0 P w K mg base ["many", "value"] "is_tuple_of" (defScope (top 11)) f cdv A outer s H E).nox (defBody (top 11)) t ∧ t { nx := fun _ H' => Q .non H', rt := Q } (L2.start ["many", "value"] vs) H) => by
    obtain ⟨t, h1, h2⟩ := z
    exact ⟨t, h1.nox, h2⟩) ?_
  refine ⟨_, (pss_one (ps_ret (pe_and (pe_callB (cisi K) (by rfl) T.b_isinstance (by decide +kernel) (pa_cons (pv 1) (pa_cons (pe_bltn (v := .ty "tuple") (by rfl) T.b_tuple (by decide +kernel) rfl) pa_nil))) (pe_one (pe_cmpR op_eq (pe_callB (clen K) (by rfl) T.b_len (by decide +kernel) (pa_cons (pv 1) pa_nil)) (pv 0) (nomark _)))))), ?_⟩
  obtain ⟨a, xs, rfl, ha, k⟩ := h
  refine s_ret (v := .bl true) (ev_is (ev_andV (a := true) (b := true) (e_isi (t := .type "tuple") (ev_var rfl) (fun H1 e1 => .base (.tup (e1 _ _ ha))) (kit_ty (by decide +kernel))) (fun _ => ?_)) rfl) fun H1 e1 => k H1 e1
  exact ev_is (e_eq (e_lenT (ev_var rfl) ha) (ev_var rfl)) (by rw [decide_eq_true rfl])
def sp_is_sign : Sp := fun vs H Q _ => ∃ i : Int, vs = [.int i] ∧ (i = 1 ∨ i = -1) ∧ RetV (.bl true) H Q
theorem sc_is_sign : FnScope ["value"] ["value"] (defScope (top 12)) := ⟨rfl, rfl, rfl, by decide +kernel, rfl, by decide +kernel, by decide +kernel⟩
theorem ok_is_sign (T : Top K mg) (C_is_between : Cal P w K mg base 2 "is_between" ["low", "value", "high"] sp_is_between) : Cal P w K mg base 3 "is_sign" ["value"] sp_is_sign := by
  obtain ⟨f, fd, F, gF⟩ := T.d_is_sign
  obtain ⟨tm, hmost⟩ := T.most
  refine ⟨⟨f, fd, ?_, gF, F.kp, F.bindsN fun _ _ _ _ _ _ us hl => match us, hl with | [_], _ => rfl⟩⟩
  refine F.ok sc_is_sign (fun vs H Q E h => ?_) (fun cdv A outer s H vs Q E hr h => ?_)
  · repeat (first | (obtain ⟨rfl, _⟩ := h; rfl) | (obtain ⟨_, h⟩ := h))
  unfold sp_is_sign at h
  refine (fun (z : ∃ t, PSs (cxOf CX0 P w K mg base ["value"] "is_sign" (defScope (top 12)) f cdv A outer s H E).nox (defBody (top 12)) t ∧ t { nx := fun _ H' => Q .non H', rt := Q } (L2.start ["value"] vs) H) => by
    obtain ⟨t, h1, h2⟩ := z
    exact ⟨t, h1.nox, h2⟩) ?_
  refine ⟨_, (pss_one (ps_ret (pe_and (C_is_between.pe hr (by rfl) (pa_cons (pe_un un_neg pe_int) (pa_cons (pv 0) (pa_cons pe_int pa_nil)))) (pe_one (pe_cmpR op_ne (pv 0) pe_int (nomark _)))))), ?_⟩
  obtain ⟨i, rfl, hi, k⟩ := h
  refine s_ret (v := .bl true) (ev_is (ev_andV (a := true) (b := true) (c_callV (ea_cons (by walk_at "ev") (ea_cons (by walk_at "ev") (ea_cons (by walk_at "ev") ea_nil))) fun H1 e1 Q1 q => ⟨_, i, _, rfl, ?_⟩) (fun _ => ?_)) rfl) fun H1 e1 => k H1 e1
  · have e : (decide (-1 ≤ i) && decide (i ≤ 1)) = true := by
      rw [decide_eq_true (by omega), decide_eq_true (by omega)]; rfl
    rw [e]
    exact q
  · exact ev_is (e_ne (ev_var rfl) ev_c) (by rw [decide_eq_false (by omega)]; rfl)
/-- a lot: ascending places -/
def LotAt (a : Addr) (l : List Nat) (H : Hp) : Prop := H a = some (.tup (l.map fun (x : Nat) => V.int (x : Int)))
theorem between_t {n x : Nat} (h : x < n) : (decide ((0 : Int) ≤ (x : Int)) && decide ((x : Int) ≤ (n : Int) - 1)) = true := by
  rw [decide_eq_true (by omega), decide_eq_true (by omega)]; rfl
def sp_is_lot_of : Sp := fun vs H Q _ => ∃ (n : Nat) (a : Addr) (l : List Nat), vs = [.int (n : Int), .ref a] ∧ LotAt a l H ∧ l.length ≤ 100 ∧ (∀ x ∈ l, x < n) ∧ (∀ k, k + 1 < l.length → l.getD k 0 < l.getD (k + 1) 0) ∧ RetV (.bl true) H Q
theorem sc_is_lot_of : FnScope ["many", "value", "place", "k"] ["many", "value"] (defScope (top 13)) := ⟨rfl, rfl, rfl, by decide +kernel, rfl, by decide +kernel, by decide +kernel⟩
theorem ok_is_lot_of (T : Top K mg) (C_is_between : Cal P w K mg base 2 "is_between" ["low", "value", "high"] sp_is_between) : Cal P w K mg base 3 "is_lot_of" ["many", "value"] sp_is_lot_of := by
  obtain ⟨f, fd, F, gF⟩ := T.d_is_lot_of
  obtain ⟨tm, hmost⟩ := T.most
  refine ⟨⟨f, fd, ?_, gF, F.kp, F.bindsN fun _ _ _ _ _ _ us hl => match us, hl with | [_, _], _ => rfl⟩⟩
  refine F.ok sc_is_lot_of (fun vs H Q E h => ?_) (fun cdv A outer s H vs Q E hr h => ?_)
  · repeat (first | (obtain ⟨rfl, _⟩ := h; rfl) | (obtain ⟨_, h⟩ := h))
  unfold sp_is_lot_of at h
  refine (fun (z : ∃ t, PSs (cxOf CX0 P w K mg base ["many", "value", "place", "k"] "is_lot_of" (defScope (top 13)) f cdv A outer s H E).nox (defBody (top 13)) t ∧ t { nx := fun _ H' => Q .non H', rt := Q } (L2.start ["many", "value", "place", "k"] vs) H) => by
    obtain ⟨t, h1, h2⟩ := z
    exact ⟨t, h1.nox, h2⟩) ?_
  refine ⟨_, (pss_cons (ps_if (PW.pt (pw_or (pt_not (pt_val (pe_callB (cisi K) (by rfl) T.b_isinstance (by decide +kernel) (pa_cons (pv 1) (pa_cons (pe_bltn (v := .ty "tuple") (by rfl) T.b_tuple (by decide +kernel) rfl) pa_nil))))) (pw_or1 (pt_not (pt_val (pe_callB (call_all_ K rfl) (by rfl) T.b_all (by decide +kernel) (pa_cons (pe_lc (own := [("place", 2)]) (g := (gName 2)) (by rfl) sc_is_lot_of.nd (piT K (pv 1)) (blkOk_by (by kernel_rfl)) (fun _ _ _ _ _ => (pg_name (i := 2) sc_is_lot_of.nd rfl (Or.inl rfl))) (fun _ _ _ _ _ => pts_nil) (fun _ _ _ _ _ => (C_is_between.pe hr (by rfl) (pa_cons pe_int (pa_cons (pv 2) (pa_cons (pe_op op_sub (pv 0) pe_int) pa_nil)))))) pa_nil))))))) (pss_one (ps_ret pe_bl)) pss_nil)
      (pss_one (ps_ret (pe_callB (call_all_ K rfl) (by rfl) T.b_all (by decide +kernel) (pa_cons (pe_lc (own := [("k", 3)]) (g := (gName 3)) (by rfl) sc_is_lot_of.nd (pi_range1 (by rfl) T.b_range (pa_cons (pe_op op_sub (pe_callB (clen K) (by rfl) T.b_len (by decide +kernel) (pa_cons (pv 1) pa_nil)) pe_int) pa_nil)) (blkOk_by (by kernel_rfl)) (fun _ _ _ _ _ => (pg_name (i := 3) sc_is_lot_of.nd rfl (Or.inl rfl))) (fun _ _ _ _ _ => pts_nil) (fun _ _ _ _ _ => (pe_cmpR op_lt (pe_ix (ixT K) (pv 1) (pv 3) (fun _ _ => rfl)) (pe_ix (ixT K) (pv 1) (pe_op op_add (pv 3) pe_int) (fun _ _ => rfl)) (nomark _)))) pa_nil))))), ?_⟩
  obtain ⟨n, a, l, rfl, ha, hl, hx, hs, k⟩ := h
  unfold LotAt at ha
  rw [as_range l 0] at ha
  have hg : ∀ i, i < l.length → l.getD i 0 < n := fun i hi => hx _ (by rw [List.getD_eq_getElem?_getD, List.getElem?_eq_getElem hi]; exact List.getElem_mem hi)
  refine q_skip (et_or (a := false) (b := false) (et_not (a := true) (et_B (e_isi (t := .type "tuple") (ev_var rfl) (fun H1 e1 => .base (.tup (e1 _ _ ha))) (kit_ty (by decide +kernel)))))
    (fun _ => et_not (a := true) (et_B (e_allT (lcA (tn_tup (ev_var rfl) ha) (by omega) (fun _ _ => rfl) fun i hi => c_callV (ea_cons ev_c (ea_cons (ev_var rfl) (ea_cons (e_sub (ev_var rfl) ev_c) ea_nil))) fun H1 e1 Q1 q => ⟨_, _, _, rfl, ?_⟩))))) fun H1 e1 => ?_
  · rw [between_t (hg i hi)]
    exact q
  · have ha1 := e1 _ _ ha
    refine s_ret (e_allT (n := ((l.length : Int) - 1).toNat) (lcA (tn_rangeZ (ea_cons (e_sub (e_lenR ha1 (ev_var rfl)) ev_c) ea_nil) (by omega)) (by omega) (fun _ _ => rfl) fun i hi => ?_)) fun H2 e2 => k H2 (e1.trans e2)
    refine ev_is (e_lt (e_ixTR ha1 (ev_var rfl) (ev_var rfl) rfl (by omega)) (e_ixTR (k := i + 1) ha1 (ev_var rfl) (e_add (ev_var rfl) ev_c) (by simp) (by omega))) ?_
    have := hs i (by omega)
    rw [decide_eq_true (by omega)]
def sp_check_lot : Sp := fun vs H Q _ => ∃ (n : Nat) (a : Addr) (l : List Nat), vs = [.int (n : Int), .ref a] ∧ LotAt a l H ∧ l.length ≤ 100 ∧ (∀ x ∈ l, x < n) ∧ (∀ k, k + 1 < l.length → l.getD k 0 < l.getD (k + 1) 0) ∧ RetV .non H Q
theorem sc_check_lot : FnScope ["many", "value"] ["many", "value"] (defScope (top 14)) := ⟨rfl, rfl, rfl, by decide +kernel, rfl, by decide +kernel, by decide +kernel⟩
theorem ok_check_lot (T : Top K mg) (C_is_lot_of : Cal P w K mg base 3 "is_lot_of" ["many", "value"] sp_is_lot_of) : Cal P w K mg base 4 "check_lot" ["many", "value"] sp_check_lot := by
  obtain ⟨f, fd, F, gF⟩ := T.d_check_lot
  obtain ⟨tm, hmost⟩ := T.most
  refine ⟨⟨f, fd, ?_, gF, F.kp, F.bindsN fun _ _ _ _ _ _ us hl => match us, hl with | [_, _], _ => rfl⟩⟩
  refine F.ok sc_check_lot (fun vs H Q E h => ?_) (fun cdv A outer s H vs Q E hr h => ?_)
  · repeat (first | (obtain ⟨rfl, _⟩ := h; rfl) | (obtain ⟨_, h⟩ := h))
  unfold sp_check_lot at h
  refine (fun (z : ∃ t, PSs (cxOf CX0 P w K mg base ["many", "value"] "check_lot" (defScope (top 14)) f cdv A outer s H E).nox (defBody (top 14)) t ∧ t { nx := fun _ H' => Q .non H', rt := Q } (L2.start ["many", "value"] vs) H) => by
    obtain ⟨t, h1, h2⟩ := z
    exact ⟨t, h1.nox, h2⟩) ?_
  refine ⟨_, (pss_one (ps_if (pt_not (pt_val (C_is_lot_of.pe hr (by rfl) (pa_cons (pv 0) (pa_cons (pv 1) pa_nil))))) (pss_one ps_never) pss_nil)), ?_⟩
  obtain ⟨n, a, l, rfl, ha, hl, hx, hs, k⟩ := h
  exact s_check (et_not (a := true) (et_B (c_callV (ea_cons (ev_var rfl) (ea_cons (ev_var rfl) ea_nil)) fun H1 e1 Q1 q => ⟨n, a, l, rfl, e1 _ _ ha, hl, hx, hs, q⟩))) fun H1 e1 => k H1 e1
def sp_check_place : Sp := fun vs H Q _ => ∃ (n x : Nat), vs = [.int (n : Int), .int (x : Int)] ∧ x < n ∧ RetV .non H Q
theorem sc_check_place : FnScope ["many", "value"] ["many", "value"] (defScope (top 15)) := ⟨rfl, rfl, rfl, by decide +kernel, rfl, by decide +kernel, by decide +kernel⟩
theorem ok_check_place (T : Top K mg) (C_is_between : Cal P w K mg base 2 "is_between" ["low", "value", "high"] sp_is_between) : Cal P w K mg base 3 "check_place" ["many", "value"] sp_check_place := by
  obtain ⟨f, fd, F, gF⟩ := T.d_check_place
  obtain ⟨tm, hmost⟩ := T.most
  refine ⟨⟨f, fd, ?_, gF, F.kp, F.bindsN fun _ _ _ _ _ _ us hl => match us, hl with | [_, _], _ => rfl⟩⟩
  refine F.ok sc_check_place (fun vs H Q E h => ?_) (fun cdv A outer s H vs Q E hr h => ?_)
  · repeat (first | (obtain ⟨rfl, _⟩ := h; rfl) | (obtain ⟨_, h⟩ := h))
  unfold sp_check_place at h
  refine (fun (z : ∃ t, PSs (cxOf CX0 P w K mg base ["many", "value"] "check_place" (defScope (top 15)) f cdv A outer s H E).nox (defBody (top 15)) t ∧ t { nx := fun _ H' => Q .non H', rt := Q } (L2.start ["many", "value"] vs) H) => by
    obtain ⟨t, h1, h2⟩ := z
    exact ⟨t, h1.nox, h2⟩) ?_
  refine ⟨_, (pss_one (ps_if (pt_not (pt_val (C_is_between.pe hr (by rfl) (pa_cons pe_int (pa_cons (pv 1) (pa_cons (pe_op op_sub (pv 0) pe_int) pa_nil)))))) (pss_one ps_never) pss_nil)), ?_⟩
  obtain ⟨n, x, rfl, hx, k⟩ := h
  refine s_check (et_not (a := true) (et_B (c_callV (ea_cons ev_c (ea_cons (ev_var rfl) (ea_cons (e_sub (ev_var rfl) ev_c) ea_nil))) fun H1 e1 Q1 q => ⟨_, _, _, rfl, ?_⟩))) fun H1 e1 => k H1 e1
  rw [between_t hx]
  exact q
def sp_check_sign : Sp := fun vs H Q _ => ∃ i : Int, vs = [.int i] ∧ (i = 1 ∨ i = -1) ∧ RetV .non H Q
theorem sc_check_sign : FnScope ["value"] ["value"] (defScope (top 16)) := ⟨rfl, rfl, rfl, by decide +kernel, rfl, by decide +kernel, by decide +kernel⟩
theorem ok_check_sign (T : Top K mg) (C_is_sign : Cal P w K mg base 3 "is_sign" ["value"] sp_is_sign) : Cal P w K mg base 4 "check_sign" ["value"] sp_check_sign := by
  obtain ⟨f, fd, F, gF⟩ := T.d_check_sign
  obtain ⟨tm, hmost⟩ := T.most
  refine ⟨⟨f, fd, ?_, gF, F.kp, F.bindsN fun _ _ _ _ _ _ us hl => match us, hl with | [_], _ => rfl⟩⟩
  refine F.ok sc_check_sign (fun vs H Q E h => ?_) (fun cdv A outer s H vs Q E hr h => ?_)
  · repeat (first | (obtain ⟨rfl, _⟩ := h; rfl) | (obtain ⟨_, h⟩ := h))
  unfold sp_check_sign at h
  refine (fun (z : ∃ t, PSs (cxOf CX0 P w K mg base ["value"] "check_sign" (defScope (top 16)) f cdv A outer s H E).nox (defBody (top 16)) t ∧ t { nx := fun _ H' => Q .non H', rt := Q } (L2.start ["value"] vs) H) => by
    obtain ⟨t, h1, h2⟩ := z
    exact ⟨t, h1.nox, h2⟩) ?_
  refine ⟨_, (pss_one (ps_if (pt_not (pt_val (C_is_sign.pe hr (by rfl) (pa_cons (pv 0) pa_nil)))) (pss_one ps_never) pss_nil)), ?_⟩
  obtain ⟨i, rfl, hi, k⟩ := h
  exact s_check (et_not (a := true) (et_B (c_callV (ea_cons (ev_var rfl) ea_nil) fun H1 e1 Q1 q => ⟨i, rfl, hi, q⟩))) fun H1 e1 => k H1 e1
def sp_others_of : Sp := fun vs H Q _ => ∃ (n : Nat) (a : Addr) (l : List Int), vs = [.int (n : Int), .ref a] ∧ n ≤ 100 ∧ TupI a l H ∧
  RetP (TupP fun ys _ => ys = ((List.range n).filter fun (i : Nat) => !decide ((i : Int) ∈ l)).map fun (i : Nat) => V.int (i : Int)) H Q
theorem sc_others_of : FnScope ["many", "lot", "place"] ["many", "lot"] (defScope (top 17)) := ⟨rfl, rfl, rfl, by decide +kernel, rfl, by decide +kernel, by decide +kernel⟩
theorem ok_others_of (T : Top K mg)  : Cal P w K mg base 1 "others_of" ["many", "lot"] sp_others_of := by
  obtain ⟨f, fd, F, gF⟩ := T.d_others_of
  obtain ⟨tm, hmost⟩ := T.most
  refine ⟨⟨f, fd, ?_, gF, F.kp, F.bindsN fun _ _ _ _ _ _ us hl => match us, hl with | [_, _], _ => rfl⟩⟩
  refine F.ok sc_others_of (fun vs H Q E h => ?_) (fun cdv A outer s H vs Q E hr h => ?_)
  · repeat (first | (obtain ⟨rfl, _⟩ := h; rfl) | (obtain ⟨_, h⟩ := h))
  unfold sp_others_of at h
  refine (fun (z : ∃ t, PSs (cxOf CX0 P w K mg base ["many", "lot", "place"] "others_of" (defScope (top 17)) f cdv A outer s H E).nox (defBody (top 17)) t ∧ t { nx := fun _ H' => Q .non H', rt := Q } (L2.start ["many", "lot", "place"] vs) H) => by
    obtain ⟨t, h1, h2⟩ := z
    exact ⟨t, h1.nox, h2⟩) ?_
  refine ⟨_, (pss_one (ps_ret (pe_callTy (ctup K) (by rfl) T.b_tuple (by decide +kernel) (pa_cons (pe_lc (own := [("place", 2)]) (g := (gName 2)) (by rfl) sc_others_of.nd (pi_range1 (by rfl) T.b_range (pa_cons (pv 0) pa_nil)) (blkOk_by (by kernel_rfl)) (fun _ _ _ _ _ => (pg_name (i := 2) sc_others_of.nd rfl (Or.inl rfl))) (fun _ _ _ _ _ => (pts_one (pt_cmpR (ninSq K) (pv 2) (pv 1) (by rfl)))) (fun _ _ _ _ _ => (pv 2))) pa_nil)))), ?_⟩
  obtain ⟨n, a, l, rfl, hn, ha, k⟩ := h
  exact s_retP (e_tupN (EvN.of (lcD (tn_range1 (ea_cons (ev_var rfl) ea_nil) (by omega)) (by omega) (fun _ _ => rfl) (fun i hi => et_test (e_nin (ev_var rfl) (ev_var rfl) ha)) (fun i hi _ => ev_var rfl))) m_eq) fun v H1 e1 r => k v H1 e1 r
def sp_is_web : Sp := fun vs H Q _ => ∃ (a : Addr) (n : Nat) (wf : Wf), vs = [.ref a] ∧ WebAt a n wf H ∧ Sw n wf ∧ RetV (.bl true) H Q
theorem sc_is_web : FnScope ["value", "line", "sign", "places", "even", "x", "y"] ["value"] (defScope (top 19)) := ⟨rfl, rfl, rfl, by decide +kernel, rfl, by decide +kernel, by decide +kernel⟩
theorem ok_is_web (T : Top K mg) (C_is_between : Cal P w K mg base 2 "is_between" ["low", "value", "high"] sp_is_between) (C_is_tuple_of : Cal P w K mg base 1 "is_tuple_of" ["many", "value"] sp_is_tuple_of) : Cal P w K mg base 3 "is_web" ["value"] sp_is_web := by
  obtain ⟨f, fd, F, gF⟩ := T.d_is_web
  obtain ⟨tm, hmost⟩ := T.most
  refine ⟨⟨f, fd, ?_, gF, F.kp, F.bindsN fun _ _ _ _ _ _ us hl => match us, hl with | [_], _ => rfl⟩⟩
  refine F.ok sc_is_web (fun vs H Q E h => ?_) (fun cdv A outer s H vs Q E hr h => ?_)
  · repeat (first | (obtain ⟨rfl, _⟩ := h; rfl) | (obtain ⟨_, h⟩ := h))
  unfold sp_is_web at h
  refine (fun (z : ∃ t, PSs (cxOf CX0 P w K mg base ["value", "line", "sign", "places", "even", "x", "y"] "is_web" (defScope (top 19)) f cdv A outer s H E).nox (defBody (top 19)) t ∧ t { nx := fun _ H' => Q .non H', rt := Q } (L2.start ["value", "line", "sign", "places", "even", "x", "y"] vs) H) => by
    obtain ⟨t, h1, h2⟩ := z
    exact ⟨t, h1.nox, h2⟩) ?_
  refine ⟨_, (pss_cons (ps_if (PW.pt (pw_or (pt_not (pt_val (pe_callB (cisi K) (by rfl) T.b_isinstance (by decide +kernel) (pa_cons (pv 0) (pa_cons (pe_bltn (v := .ty "tuple") (by rfl) T.b_tuple (by decide +kernel) rfl) pa_nil))))) (pw_or1 (pt_not (pt_chain op_le op_le pe_int (pe_callB (clen K) (by rfl) T.b_len (by decide +kernel) (pa_cons (pv 0) pa_nil)) (pe_glob (v := .int 10) (by rfl) hmost ⟨_, rfl⟩)))))) (pss_one (ps_ret pe_bl)) pss_nil)
      (pss_cons (ps_for PassesOwn.never rfl (piT K (pv 0)) (pg_name (i := 1) sc_is_web.nd rfl (Or.inl rfl)) (pss_one (ps_if (PW.pt (pw_or (pt_not (pt_val (C_is_tuple_of.pe hr (by rfl) (pa_cons (pe_callB (clen K) (by rfl) T.b_len (by decide +kernel) (pa_cons (pv 0) pa_nil)) (pa_cons (pv 1) pa_nil))))) (pw_or1 (pt_not (pt_val (pe_callB (call_all_ K rfl) (by rfl) T.b_all (by decide +kernel) (pa_cons (pe_lc (own := [("sign", 2)]) (g := (gName 2)) (by rfl) sc_is_web.nd (piT K (pv 1)) (blkOk_by (by kernel_rfl)) (fun _ _ _ _ _ => (pg_name (i := 2) sc_is_web.nd rfl (Or.inl rfl))) (fun _ _ _ _ _ => pts_nil) (fun _ _ _ _ _ => (C_is_between.pe hr (by rfl) (pa_cons (pe_un un_neg pe_int) (pa_cons (pv 2) (pa_cons pe_int pa_nil)))))) pa_nil))))))) (pss_one (ps_ret pe_bl)) pss_nil)))
      (pss_cons (ps_set (i := 3) sc_is_web.nd rfl (Or.inl rfl) (pe_callTy cr_range1 (by rfl) T.b_range (by decide +kernel) (pa_cons (pe_callB (clen K) (by rfl) T.b_len (by decide +kernel) (pa_cons (pv 0) pa_nil)) pa_nil)))
      (pss_cons (ps_set (i := 4) sc_is_web.nd rfl (Or.inl rfl) (pe_callB (call_all_ K rfl) (by rfl) T.b_all (by decide +kernel) (pa_cons (pe_lc2 (own := [("x", 5), ("y", 6)]) (vs1 := [6]) (g := (gName 5)) (g1 := (gName 6)) (by rfl) sc_is_web.nd (pi_rngv (pv 3)) (blkOk_by (by kernel_rfl)) (by decide) (fun _ _ _ _ _ => (pg_name (i := 5) sc_is_web.nd rfl (Or.inl rfl))) (fun _ _ _ _ _ => pts_nil) (fun _ _ _ _ _ => (pi_range1 (by rfl) T.b_range (pa_cons (pv 5) pa_nil))) (fun _ _ _ _ _ => (pg_name (i := 6) sc_is_web.nd rfl (Or.inl rfl))) (fun _ _ _ _ _ => pts_nil) (fun _ _ _ _ _ => (pe_cmpR op_eq (pe_ix (ixT K) (pe_ix (ixT K) (pv 0) (pv 5) (fun _ _ => rfl)) (pv 6) (fun _ _ => rfl)) (pe_ix (ixT K) (pe_ix (ixT K) (pv 0) (pv 6) (fun _ _ => rfl)) (pv 5) (fun _ _ => rfl)) (nomark _)))) pa_nil)))
      (pss_one (ps_ret (pe_and (pv 4) (pe_one (pe_callB (call_all_ K rfl) (by rfl) T.b_all (by decide +kernel) (pa_cons (pe_lc (own := [("x", 5)]) (g := (gName 5)) (by rfl) sc_is_web.nd (pi_rngv (pv 3)) (blkOk_by (by kernel_rfl)) (fun _ _ _ _ _ => (pg_name (i := 5) sc_is_web.nd rfl (Or.inl rfl))) (fun _ _ _ _ _ => pts_nil) (fun _ _ _ _ _ => (pe_cmpR op_eq (pe_ix (ixT K) (pe_ix (ixT K) (pv 0) (pv 5) (fun _ _ => rfl)) (pv 5) (fun _ _ => rfl)) pe_int (nomark _)))) pa_nil)))))))))), ?_⟩
  obtain ⟨a, n, wf, rfl, hw, sw, k⟩ := h
  have hn := sw.le
  have hp := sw.pos
  obtain ⟨rs, h1, h2⟩ := id hw
  refine q_skip (et_or (a := false) (b := false) (et_not (a := true) (et_B (e_isi (t := .type "tuple") (ev_var rfl) (fun H1 e1 => .base (.tup (e1 _ _ h1))) (kit_ty (by decide +kernel)))))
    (fun _ => et_not (a := true) (et_test (ev_is (e_chain ev_c (e_lenW hw (ev_var rfl)) rv_I0 ev_c rv_I0) ?_)))) fun H1 e1 => ?_
  · rw [decide_eq_true (by omega), decide_eq_true (by omega)]; rfl
  refine q_for (tn_tup (ev_var rfl) (e1 _ _ h1)) (fun H1 i σ' H' => ∃ l, σ' = [some (.ref a), l, none, none, none, none, none] ∧ Ex H1 H') (fun H2 e2 => ⟨none, rfl, Ex.refl _⟩) (fun _ _ _ _ _ _ p => p.choose_spec.2) ?_ ?_
  · rintro H2 i σ' H' e2 hi ⟨l, rfl, e3⟩ H5 e5
    have eH : Ex H H5 := ((e1.trans e2).trans e3).trans e5
    have hr := eH _ _ (h2 i hi)
    refine s_skip (et_or (a := false) (b := false) (et_not (a := true) (et_B (c_callV (ea_cons (e_lenW (hw.m eH) (ev_var rfl)) (ea_cons (ev_var rfl) ea_nil)) fun H6 e6 Q6 q => ⟨_, _, ?_, e6 _ _ hr, q⟩)))
      (fun _ => et_not (a := true) (et_B (e_allT (lcA (tn_tup (ev_var rfl) hr) (by omega) (fun _ _ => rfl) fun j hj => c_callV (ea_cons (e_neg ev_c) (ea_cons (ev_var rfl) (ea_cons ev_c ea_nil))) fun H6 e6 Q6 q => ⟨_, _, _, rfl, ?_⟩))))) fun H6 e6 => ⟨_, rfl, (e3.trans e5).trans e6⟩
    · rw [range_map_len]
    · have hs := sw.sgn i j hi hj
      have e : (decide (-1 ≤ wf i j) && decide (wf i j ≤ 1)) = true := by
        rw [decide_eq_true (by omega), decide_eq_true (by omega)]; rfl
      rw [e]
      exact q
  · rintro H2 σ' H' e2 ⟨l, rfl, e3⟩
    have eH : Ex H H' := (e1.trans e2).trans e3
    refine q_asgP (e_rng (e_lenW (hw.m eH) (ev_var rfl))) fun v H3 e4 ⟨p, ev, hp3⟩ => ?_
    subst ev
    have hw3 := (hw.m eH).m e4
    refine q_asg (v := .bl true) ?_ fun H4 e5 => ?_
    · exact e_allT2 (0, 0) (lc2P (n := n) (m := fun i => i) (f := fun _ _ => true) (R := fun _ v _ => v = V.bl true) (tn_rngv (ev_var rfl) hp3 (by omega)) (by omega) (fun i hi => by omega) (fun _ _ => rfl)
        (fun i hi => tf_range1 (ea_cons (ev_var rfl) ea_nil) (by omega)) (fun _ _ _ _ => rfl) (fun i j hi hj => et_yes)
        (fun i j hi hj _ => EvP.of (ev_is (e_eq (e_web hw3 (ev_var rfl) (ev_var rfl) (ev_var rfl) rfl rfl hi (by omega)) (e_web hw3 (ev_var rfl) (ev_var rfl) (ev_var rfl) rfl rfl (by omega) hi)) (by rw [sw.sym i j hi (by omega), decide_eq_true rfl]))) (fun _ _ _ _ _ h => h))
    · have hw4 := hw3.m e5
      have hp4 := e5 _ _ hp3
      refine s_ret (v := .bl true) (ev_is (ev_andV (a := true) (b := true) (ev_var rfl) fun _ => ?_) rfl) fun H5 e6 => k H5 (((eH.trans e4).trans e5).trans e6)
      refine e_allT (lcA (tn_rngv (ev_var rfl) hp4 (by omega)) (by omega) (fun _ _ => rfl) fun i hi => ev_is (e_eq (e_web hw4 (ev_var rfl) (ev_var rfl) (ev_var rfl) rfl rfl hi hi) ev_c) ?_)
      rw [sw.dia i hi, decide_eq_true rfl]
def sp_check_web : Sp := fun vs H Q _ => ∃ (a : Addr) (n : Nat) (wf : Wf), vs = [.ref a] ∧ WebAt a n wf H ∧ Sw n wf ∧ RetV .non H Q
theorem sc_check_web : FnScope ["value"] ["value"] (defScope (top 20)) := ⟨rfl, rfl, rfl, by decide +kernel, rfl, by decide +kernel, by decide +kernel⟩
theorem ok_check_web (T : Top K mg) (C_is_web : Cal P w K mg base 3 "is_web" ["value"] sp_is_web) : Cal P w K mg base 4 "check_web" ["value"] sp_check_web := by
  obtain ⟨f, fd, F, gF⟩ := T.d_check_web
  obtain ⟨tm, hmost⟩ := T.most
  refine ⟨⟨f, fd, ?_, gF, F.kp, F.bindsN fun _ _ _ _ _ _ us hl => match us, hl with | [_], _ => rfl⟩⟩
  refine F.ok sc_check_web (fun vs H Q E h => ?_) (fun cdv A outer s H vs Q E hr h => ?_)
  · repeat (first | (obtain ⟨rfl, _⟩ := h; rfl) | (obtain ⟨_, h⟩ := h))
  unfold sp_check_web at h
  refine (fun (z : ∃ t, PSs (cxOf CX0 P w K mg base ["value"] "check_web" (defScope (top 20)) f cdv A outer s H E).nox (defBody (top 20)) t ∧ t { nx := fun _ H' => Q .non H', rt := Q } (L2.start ["value"] vs) H) => by
    obtain ⟨t, h1, h2⟩ := z
    exact ⟨t, h1.nox, h2⟩) ?_
  refine ⟨_, (pss_one (ps_if (pt_not (pt_val (C_is_web.pe hr (by rfl) (pa_cons (pv 0) pa_nil)))) (pss_one ps_never) pss_nil)), ?_⟩
  obtain ⟨a, n, wf, rfl, hw, sw, k⟩ := h
  exact s_check (et_not (a := true) (et_B (c_callV (ea_cons (ev_var rfl) ea_nil) fun H1 e1 Q1 q => ⟨a, n, wf, rfl, hw.m e1, sw, q⟩))) fun H1 e1 => k H1 e1
end
end Sg
set_option maxHeartbeats 4000000
namespace Sg
open PySem PySem.Spec PyProof.Rows L2 Evl
local macro_rules | `(tactic| walk_at "ev") => `(tactic| first
  | exact ev_c
  | exact ev_var rfl
  | assumption
  | refine e_neg (by walk_at "ev")
  | refine e_add (by walk_at "ev") (by walk_at "ev")
  | refine e_sub (by walk_at "ev") (by walk_at "ev")
  | refine e_web (by assumption) (by walk_at "ev") (by walk_at "ev") (by walk_at "ev") rfl rfl (by omega) (by omega)
  | refine e_lenW (by assumption) (by walk_at "ev")
  | refine e_eq (by walk_at "ev") (by walk_at "ev")
  | refine e_ne (by walk_at "ev") (by walk_at "ev")
  | refine e_lt (by walk_at "ev") (by walk_at "ev")
  | refine e_le (by walk_at "ev") (by walk_at "ev")
  | refine e_gt (by walk_at "ev") (by walk_at "ev")
  | refine e_ge (by walk_at "ev") (by walk_at "ev")
  | refine e_isN (by walk_at "ev")
  | refine e_notN (by walk_at "ev"))
section
variable {P : Program} {w : World} {K : PySem.W.Frag} {mg : Str → Option Value} {base : Heap}
def sp_ties_of : Sp := fun vs H Q _ => ∃ (a : Addr) (n : Nat) (wf : Wf), vs = [.ref a] ∧ WebAt a n wf H ∧ n ≤ 10 ∧ ∀ p xs H2, H p = none → Ex H H2 → H2 p = some (.lst xs) → PairsAt xs (tiesL n wf) H2 → Q (.ref p) H2
theorem sc_ties_of : FnScope ["web", "many", "x", "y"] ["web"] (defScope (top 21)) := ⟨rfl, rfl, rfl, by decide +kernel, rfl, by decide +kernel, by decide +kernel⟩
theorem ok_ties_of (T : Top K mg)  : Cal P w K mg base 1 "ties_of" ["web"] sp_ties_of := by
  obtain ⟨f, fd, F, gF⟩ := T.d_ties_of
  obtain ⟨tm, hmost⟩ := T.most
  refine ⟨⟨f, fd, ?_, gF, F.kp, F.bindsN fun _ _ _ _ _ _ us hl => match us, hl with | [_], _ => rfl⟩⟩
  refine F.ok sc_ties_of (fun vs H Q E h => ?_) (fun cdv A outer s H vs Q E hr h => ?_)
  · repeat (first | (obtain ⟨rfl, _⟩ := h; rfl) | (obtain ⟨_, h⟩ := h))
  unfold sp_ties_of at h
  refine (fun (z : ∃ t, PSs (cxOf CX0 P w K mg base ["web", "many", "x", "y"] "ties_of" (defScope (top 21)) f cdv A outer s H E).nox (defBody (top 21)) t ∧ t { nx := fun _ H' => Q .non H', rt := Q } (L2.start ["web", "many", "x", "y"] vs) H) => by
    obtain ⟨t, h1, h2⟩ := z
    exact ⟨t, h1.nox, h2⟩) ?_
  refine ⟨_, (pss_cons (ps_set (i := 1) sc_ties_of.nd rfl (Or.inr rfl) (pe_callB (clen K) (by rfl) T.b_len (by decide +kernel) (pa_cons (pv 0) pa_nil)))
      (pss_one (ps_ret (pe_lc2 (own := [("x", 2), ("y", 3)]) (vs1 := [3]) (g := (gName 2)) (g1 := (gName 3)) (by rfl) sc_ties_of.nd (pi_range1 (by rfl) T.b_range (pa_cons (pv 1) pa_nil)) (blkOk_by (by kernel_rfl)) (by decide) (fun _ _ _ _ _ => (pg_name (i := 2) sc_ties_of.nd rfl (Or.inl rfl))) (fun _ _ _ _ _ => pts_nil) (fun _ _ _ _ _ => (pi_range2 (by rfl) T.b_range (pa_cons (pe_op op_add (pv 2) pe_int) (pa_cons (pv 1) pa_nil)))) (fun _ _ _ _ _ => (pg_name (i := 3) sc_ties_of.nd rfl (Or.inl rfl))) (fun _ _ _ _ _ => (pts_one (pt_cmpR op_ne (pe_ix (ixT K) (pe_ix (ixT K) (pv 0) (pv 2) (fun _ _ => rfl)) (pv 3) (fun _ _ => rfl)) pe_int (nomark _)))) (fun _ _ _ _ _ => (pe_tup (pa_cons (pv 2) (pa_cons (pv 3) pa_nil)))))))), ?_⟩
  obtain ⟨a, n, wf, rfl, hw, hn, k⟩ := h
  refine q_asg (e_lenW hw (ev_var rfl)) fun H1 e1 => ?_
  have hw1 := hw.m e1
  refine s_retN ((lc2P (n := n) (m := fun i => n - (i + 1)) (f := fun i j => !decide (wf i (i + 1 + j) = 0)) (R := fun l v H' => IsT [.int (l.1 : Int), .int ((l.1 + 1 + l.2 : Nat) : Int)] v H') (tn_range1 (ea_cons (ev_var rfl) ea_nil) (by omega)) (by omega) (fun i hi => by omega) (fun _ _ => rfl)
    (fun i hi => tf_range2 (ea_cons (ev_is (e_add (ev_var rfl) ev_c) rfl) (ea_cons (ev_var rfl) ea_nil)) ⟨by omega, by omega⟩) (fun _ _ _ _ => rfl)
    (fun i j hi hj => et_test (e_ne (e_web hw1 (ev_var rfl) (ev_var rfl) (ev_var rfl) rfl rfl hi (by omega)) ev_c)) (fun i j hi hj _ => e_tup2 (ev_var rfl) (ev_var rfl)) (fun _ => IsT.mt)).imp (P' := fun xs H' => PairsAt xs (tiesL n wf) H') fun xs H' _ r => pairR r) fun p xs H2 hp e2 h2 r => ?_
  exact k p xs H2 (fresh_back e1 hp) (e1.trans e2) h2 r
/-- how many foes -/
def foesN (n : Nat) (wf : Wf) : Nat := ((tiesL n wf).filter fun l => decide (wf l.1 l.2 = -1)).length
theorem filter_len {α : Type} (l : List α) (d : α) (f : α → Bool) : ((List.range l.length).filter fun i => f (l.getD i d)).length = (l.filter f).length := by
  have e := as_range l d id
  rw [List.map_id] at e
  conv => rhs; rw [e, List.filter_map, List.length_map]
  rfl
def sp_foes_of : Sp := fun vs H Q _ => ∃ (a : Addr) (n : Nat) (wf : Wf), vs = [.ref a] ∧ WebAt a n wf H ∧ n ≤ 10 ∧ ∀ p xs H2, H p = none → Ex H H2 → H2 p = some (.lst xs) → xs.length = foesN n wf → Q (.ref p) H2
theorem sc_foes_of : FnScope ["web", "x", "y"] ["web"] (defScope (top 22)) := ⟨rfl, rfl, rfl, by decide +kernel, rfl, by decide +kernel, by decide +kernel⟩
theorem ok_foes_of (T : Top K mg) (C_ties_of : Cal P w K mg base 1 "ties_of" ["web"] sp_ties_of) : Cal P w K mg base 2 "foes_of" ["web"] sp_foes_of := by
  obtain ⟨f, fd, F, gF⟩ := T.d_foes_of
  obtain ⟨tm, hmost⟩ := T.most
  refine ⟨⟨f, fd, ?_, gF, F.kp, F.bindsN fun _ _ _ _ _ _ us hl => match us, hl with | [_], _ => rfl⟩⟩
  refine F.ok sc_foes_of (fun vs H Q E h => ?_) (fun cdv A outer s H vs Q E hr h => ?_)
  · repeat (first | (obtain ⟨rfl, _⟩ := h; rfl) | (obtain ⟨_, h⟩ := h))
  unfold sp_foes_of at h
  refine (fun (z : ∃ t, PSs (cxOf CX0 P w K mg base ["web", "x", "y"] "foes_of" (defScope (top 22)) f cdv A outer s H E).nox (defBody (top 22)) t ∧ t { nx := fun _ H' => Q .non H', rt := Q } (L2.start ["web", "x", "y"] vs) H) => by
    obtain ⟨t, h1, h2⟩ := z
    exact ⟨t, h1.nox, h2⟩) ?_
  refine ⟨_, (pss_one (ps_ret (pe_lc (own := [("x", 1), ("y", 2)]) (g := (gTup K 2 (gCons (gName 1) (gCons (gName 2) gNil)))) (by rfl) sc_foes_of.nd (piL K (C_ties_of.pe hr (by rfl) (pa_cons (pv 0) pa_nil))) (blkOk_by (by kernel_rfl)) (fun _ _ _ _ _ => (pgT K rfl (pgs_cons (pg_name (i := 1) sc_foes_of.nd rfl (Or.inl rfl)) (pgs_cons (pg_name (i := 2) sc_foes_of.nd rfl (Or.inl rfl)) pgs_nil)))) (fun _ _ _ _ _ => (pts_one (pt_cmpR op_eq (pe_ix (ixT K) (pe_ix (ixT K) (pv 0) (pv 1) (fun _ _ => rfl)) (pv 2) (fun _ _ => rfl)) (pe_un un_neg pe_int) (nomark _)))) (fun _ _ _ _ _ => (pe_tup (pa_cons (pv 1) (pa_cons (pv 2) pa_nil))))))), ?_⟩
  obtain ⟨a, n, wf, rfl, hw, hn, k⟩ := h
  have hl := ties_len n wf hn
  refine s_retN ((lcP (n := (tiesL n wf).length) (f := fun k => decide (wf ((tiesL n wf).getD k (0, 0)).1 ((tiesL n wf).getD k (0, 0)).2 = -1)) (R := fun k v H' => IsT [.int (((tiesL n wf).getD k (0, 0)).1 : Int), .int (((tiesL n wf).getD k (0, 0)).2 : Int)] v H')
    (tn_pairs (c_callN (ea_cons (ev_var rfl) ea_nil) fun H1 e1 Q1 q => ⟨a, n, wf, rfl, hw.m e1, hn, q⟩)) (by omega) (fun _ _ => rfl)
    (fun i hi => et_test (ev_is (e_eq (e_web hw (ev_var rfl) (ev_var rfl) (ev_var rfl) rfl rfl (Nat.lt_trans (ties_at hi).1 (ties_at hi).2.1) (ties_at hi).2.1) (e_neg ev_c)) rfl)) (fun i hi _ => e_tup2 (ev_var rfl) (ev_var rfl)) (fun _ => IsT.mt)).imp (P' := fun xs _ => xs.length = foesN n wf) fun xs H' _ r => ?_) fun p xs H2 hp e2 h2 r => k p xs H2 hp e2 h2 r
  rw [r.length]
  exact filter_len (tiesL n wf) (0, 0) fun l => decide (wf l.1 l.2 = -1)
def sp_check_room : Sp := fun vs H Q _ => ∃ i : Int, vs = [.int i] ∧ i ≤ 10 ∧ RetV .non H Q
theorem sc_check_room : FnScope ["many"] ["many"] (defScope (top 25)) := ⟨rfl, rfl, rfl, by decide +kernel, rfl, by decide +kernel, by decide +kernel⟩
theorem ok_check_room (T : Top K mg)  : Cal P w K mg base 1 "check_room" ["many"] sp_check_room := by
  obtain ⟨f, fd, F, gF⟩ := T.d_check_room
  obtain ⟨tm, hmost⟩ := T.most
  refine ⟨⟨f, fd, ?_, gF, F.kp, F.bindsN fun _ _ _ _ _ _ us hl => match us, hl with | [_], _ => rfl⟩⟩
  refine F.ok sc_check_room (fun vs H Q E h => ?_) (fun cdv A outer s H vs Q E hr h => ?_)
  · repeat (first | (obtain ⟨rfl, _⟩ := h; rfl) | (obtain ⟨_, h⟩ := h))
  unfold sp_check_room at h
  refine (fun (z : ∃ t, PSs (cxOf CX0 P w K mg base ["many"] "check_room" (defScope (top 25)) f cdv A outer s H E).nox (defBody (top 25)) t ∧ t { nx := fun _ H' => Q .non H', rt := Q } (L2.start ["many"] vs) H) => by
    obtain ⟨t, h1, h2⟩ := z
    exact ⟨t, h1.nox, h2⟩) ?_
  refine ⟨_, (pss_one (ps_if (pt_cmpR op_gt (pv 0) (pe_glob (v := .int 10) (by rfl) hmost ⟨_, rfl⟩) (nomark _)) (pss_one ps_never) pss_nil)), ?_⟩
  obtain ⟨i, rfl, hi, k⟩ := h
  exact s_check (et_test (ev_is (e_gt (ev_var rfl) ev_c) (by rw [decide_eq_false (by omega)]))) fun H1 e1 => k H1 e1
def sp_joined_all : Sp := fun vs H Q _ => ∃ (a b : Addr) (n m : Nat) (wf of : Wf) (s : Int), vs = [.ref a, .ref b, .int s] ∧ WebAt a n wf H ∧ Sw n wf ∧ WebAt b m of H ∧ Sw m of ∧ (s = 1 ∨ s = -1) ∧ n + m ≤ 10 ∧ RetP (IsW (n + m) (joinW n wf of s)) H Q
theorem sc_joined_all : FnScope ["web", "other_web", "sign", "upper", "line"] ["web", "other_web", "sign"] (defScope (top 26)) := ⟨rfl, rfl, rfl, by decide +kernel, rfl, by decide +kernel, by decide +kernel⟩
theorem ok_joined_all (T : Top K mg) (C_check_sign : Cal P w K mg base 4 "check_sign" ["value"] sp_check_sign) (C_check_web : Cal P w K mg base 4 "check_web" ["value"] sp_check_web) (C_check_room : Cal P w K mg base 1 "check_room" ["many"] sp_check_room) : Cal P w K mg base 5 "joined_all" ["web", "other_web", "sign"] sp_joined_all := by
  obtain ⟨f, fd, F, gF⟩ := T.d_joined_all
  obtain ⟨tm, hmost⟩ := T.most
  refine ⟨⟨f, fd, ?_, gF, F.kp, F.bindsN fun _ _ _ _ _ _ us hl => match us, hl with | [_, _, _], _ => rfl⟩⟩
  refine F.ok sc_joined_all (fun vs H Q E h => ?_) (fun cdv A outer s H vs Q E hr h => ?_)
  · repeat (first | (obtain ⟨rfl, _⟩ := h; rfl) | (obtain ⟨_, h⟩ := h))
  unfold sp_joined_all at h
  refine (fun (z : ∃ t, PSs (cxOf CX0 P w K mg base ["web", "other_web", "sign", "upper", "line"] "joined_all" (defScope (top 26)) f cdv A outer s H E).nox (defBody (top 26)) t ∧ t { nx := fun _ H' => Q .non H', rt := Q } (L2.start ["web", "other_web", "sign", "upper", "line"] vs) H) => by
    obtain ⟨t, h1, h2⟩ := z
    exact ⟨t, h1.nox, h2⟩) ?_
  refine ⟨_, (pss_cons (ps_expr (C_check_web.pe hr (by rfl) (pa_cons (pv 0) pa_nil)))
      (pss_cons (ps_expr (C_check_web.pe hr (by rfl) (pa_cons (pv 1) pa_nil)))
      (pss_cons (ps_expr (C_check_sign.pe hr (by rfl) (pa_cons (pv 2) pa_nil)))
      (pss_cons (ps_expr (C_check_room.pe hr (by rfl) (pa_cons (pe_op op_add (pe_callB (clen K) (by rfl) T.b_len (by decide +kernel) (pa_cons (pv 0) pa_nil)) (pe_callB (clen K) (by rfl) T.b_len (by decide +kernel) (pa_cons (pv 1) pa_nil))) pa_nil)))
      (pss_cons (ps_setLc (i := 3) (own := [("line", 4)]) (g := (gName 4)) (by rfl) sc_joined_all.nd rfl rfl (sw_true rfl rfl rfl (by kernel_rfl)) (piT K (pv 0)) (blkOk_by (by kernel_rfl)) (fun _ _ _ _ _ => (pg_name (i := 4) sc_joined_all.nd rfl (Or.inl rfl))) (fun _ _ _ _ _ => pts_nil) (fun _ _ _ _ _ => (pe_op (catA K) (pv 4) (pe_op (repS K) (pe_tup (pa_cons (pv 2) pa_nil)) (pe_callB (clen K) (by rfl) T.b_len (by decide +kernel) (pa_cons (pv 1) pa_nil))))))
      (pss_one (ps_ret (pe_callTy (ctup K) (by rfl) T.b_tuple (by decide +kernel) (pa_cons (pe_op op_cat (pv 3) (pe_lc (own := [("line", 4)]) (g := (gName 4)) (by rfl) sc_joined_all.nd (piT K (pv 1)) (blkOk_by (by kernel_rfl)) (fun _ _ _ _ _ => (pg_name (i := 4) sc_joined_all.nd rfl (Or.inl rfl))) (fun _ _ _ _ _ => pts_nil) (fun _ _ _ _ _ => (pe_op (catA K) (pe_op (repS K) (pe_tup (pa_cons (pv 2) pa_nil)) (pe_callB (clen K) (by rfl) T.b_len (by decide +kernel) (pa_cons (pv 0) pa_nil))) (pv 4))))) pa_nil))))))))), ?_⟩
  obtain ⟨a, b, n, m, wf, of, s, rfl, hw, sw, ho, so, hs, hnm, k⟩ := h
  refine q_drop (c_callV (v := .non) (ea_cons (ev_var rfl) ea_nil) fun H1 e1 Q1 q => ⟨a, n, wf, rfl, hw.m e1, sw, q⟩) fun H1 e1 => ?_
  refine q_drop (c_callV (v := .non) (ea_cons (ev_var rfl) ea_nil) fun H2 e2 Q1 q => ⟨b, m, of, rfl, ho.m (e1.trans e2), so, q⟩) fun H2 e2 => ?_
  refine q_drop (c_callV (v := .non) (ea_cons (ev_var rfl) ea_nil) fun H3 e3 Q1 q => ⟨s, rfl, hs, q⟩) fun H3 e3 => ?_
  have e13 := (e1.trans e2).trans e3
  refine q_drop (c_callV (v := .non) (ea_cons (e_add (e_lenW (hw.m e13) (ev_var rfl)) (e_lenW (ho.m e13) (ev_var rfl))) ea_nil) fun H3 e3 Q1 q => ⟨_, rfl, by omega, q⟩) fun H4 e4 => ?_
  have e14 := e13.trans e4
  have hw4 := hw.m e14
  have ho4 := ho.m e14
  obtain ⟨rs, h1, h2⟩ := id hw4
  obtain ⟨rt, h3, h4⟩ := id ho4
  have sp := sw.pos
  have op := so.pos
  refine q_asgN (lcPA (R := fun i v H' => IsT ((List.range (n + m)).map fun j => V.int (joinW n wf of s i j)) v H') (tn_tup (ev_var rfl) h1) (by omega) (fun _ _ => rfl) (fun i hi => ?_) (fun _ => IsT.mt)) fun p xs H5 hp e5 hx hP => ?_
  · refine (e_catA (EvP.tup (ev_var rfl) (h2 i hi)) (e_repS (e_tup1 (ev_var rfl)) (e_lenW ho4 (ev_var rfl)) ⟨by omega, by omega⟩) (by simp; omega)).imp fun v H' _ r => ?_
    rw [rep_row, row_app] at r
    have e : ((List.range (n + m)).map fun j => if j < n then V.int (wf i j) else V.int s) = (List.range (n + m)).map fun j => V.int (joinW n wf of s i j) := List.map_congr_left fun j _ => by
      unfold joinW
      rw [if_pos hi]
      split <;> rfl
    rw [← e]
    exact r
  · have hw5 := hw4.m e5
    have lx := hP.length
    rw [List.length_range] at lx
    refine s_retP (e_tupN (n_cat (ev_var rfl) hx (lcPA (R := fun i v H' => IsT ((List.range (n + m)).map fun j => V.int (joinW n wf of s (n + i) j)) v H') (tn_tup (ev_var rfl) (e5 _ _ h3)) (by omega) (fun _ _ => rfl) (fun i hi => ?_) (fun _ => IsT.mt)) (fun _ _ _ e r => Paired.mono (fun _ _ r => IsT.mt _ _ _ (ExT.of e) r) r) ⟨by omega, fun zs H' r => by have := r.length; rw [List.length_range] at this; omega⟩)
      (fun _ _ _ e ⟨zs, h1, r⟩ => ⟨zs, h1, Paired.mono (fun _ _ r => IsT.mt _ _ _ (ExT.of e) r) r⟩)) fun v H6 e6 ⟨q, ys, ev, hq, zs, ey, r⟩ => ?_
    · refine (e_catA (e_repS (e_tup1 (ev_var rfl)) (e_lenW hw5 (ev_var rfl)) ⟨by omega, by omega⟩) (EvP.tup (ev_var rfl) (e5 _ _ (h4 i hi))) (by simp; omega)).imp fun v H' _ r => ?_
      rw [rep_row, row_app] at r
      have e : ((List.range (n + m)).map fun j => if j < n then V.int s else V.int (of i (j - n))) = (List.range (n + m)).map fun j => V.int (joinW n wf of s (n + i) j) := List.map_congr_left fun j _ => by
        have e1 : joinW n wf of s (n + i) j = if j < n then s else of i (j - n) := by
          unfold joinW
          rw [if_neg (by omega : ¬ n + i < n), Nat.add_sub_cancel_left]
        rw [e1]
        split <;> rfl
      rw [← e]
      exact r
    · subst ey
      refine k v H6 ((e14.trans e5).trans e6) ⟨q, ev, web_two hq (Paired.mono (fun _ _ r => IsT.mt _ _ _ (ExT.of e6) r) hP) r⟩
def sp_put_in : Sp := fun vs H Q _ => ∃ (a b : Addr) (n m p : Nat) (wf of : Wf), vs = [.ref a, .int (p : Int), .ref b] ∧ WebAt a n wf H ∧ Sw n wf ∧ WebAt b m of H ∧ Sw m of ∧ p < n ∧ n - 1 + m ≤ 10 ∧ RetP (IsW (n - 1 + m) (putW n p wf of)) H Q
theorem sc_put_in : FnScope ["web", "place", "other_web", "rest", "upper", "y", "x", "outer", "line"] ["web", "place", "other_web"] (defScope (top 27)) := ⟨rfl, rfl, rfl, by decide +kernel, rfl, by decide +kernel, by decide +kernel⟩
theorem ok_put_in (T : Top K mg) (C_check_place : Cal P w K mg base 3 "check_place" ["many", "value"] sp_check_place) (C_others_of : Cal P w K mg base 1 "others_of" ["many", "lot"] sp_others_of) (C_check_web : Cal P w K mg base 4 "check_web" ["value"] sp_check_web) (C_check_room : Cal P w K mg base 1 "check_room" ["many"] sp_check_room) : Cal P w K mg base 5 "put_in" ["web", "place", "other_web"] sp_put_in := by
  obtain ⟨f, fd, F, gF⟩ := T.d_put_in
  obtain ⟨tm, hmost⟩ := T.most
  refine ⟨⟨f, fd, ?_, gF, F.kp, F.bindsN fun _ _ _ _ _ _ us hl => match us, hl with | [_, _, _], _ => rfl⟩⟩
  refine F.ok sc_put_in (fun vs H Q E h => ?_) (fun cdv A outer s H vs Q E hr h => ?_)
  · repeat (first | (obtain ⟨rfl, _⟩ := h; rfl) | (obtain ⟨_, h⟩ := h))
  unfold sp_put_in at h
  refine (fun (z : ∃ t, PSs (cxOf CX0 P w K mg base ["web", "place", "other_web", "rest", "upper", "y", "x", "outer", "line"] "put_in" (defScope (top 27)) f cdv A outer s H E).nox (defBody (top 27)) t ∧ t { nx := fun _ H' => Q .non H', rt := Q } (L2.start ["web", "place", "other_web", "rest", "upper", "y", "x", "outer", "line"] vs) H) => by
    obtain ⟨t, h1, h2⟩ := z
    exact ⟨t, h1.nox, h2⟩) ?_
  refine ⟨_, (pss_cons (ps_expr (C_check_web.pe hr (by rfl) (pa_cons (pv 0) pa_nil)))
      (pss_cons (ps_expr (C_check_place.pe hr (by rfl) (pa_cons (pe_callB (clen K) (by rfl) T.b_len (by decide +kernel) (pa_cons (pv 0) pa_nil)) (pa_cons (pv 1) pa_nil))))
      (pss_cons (ps_expr (C_check_web.pe hr (by rfl) (pa_cons (pv 2) pa_nil)))
      (pss_cons (ps_expr (C_check_room.pe hr (by rfl) (pa_cons (pe_op op_add (pe_op op_sub (pe_callB (clen K) (by rfl) T.b_len (by decide +kernel) (pa_cons (pv 0) pa_nil)) pe_int) (pe_callB (clen K) (by rfl) T.b_len (by decide +kernel) (pa_cons (pv 2) pa_nil))) pa_nil)))
      (pss_cons (ps_set (i := 3) sc_put_in.nd rfl (Or.inr rfl) (C_others_of.pe hr (by rfl) (pa_cons (pe_callB (clen K) (by rfl) T.b_len (by decide +kernel) (pa_cons (pv 0) pa_nil)) (pa_cons (pe_tup (pa_cons (pv 1) pa_nil)) pa_nil))))
      (pss_cons (ps_setLc (i := 4) (own := [("x", 6)]) (g := (gName 6)) (by rfl) sc_put_in.nd rfl rfl (sw_true rfl rfl rfl (by kernel_rfl)) (piT K (pv 3)) (blkOk_by (by kernel_rfl)) (fun _ _ _ _ _ => (pg_name (i := 6) sc_put_in.nd rfl (Or.inr rfl))) (fun _ _ _ _ _ => pts_nil) (fun _ _ _ _ _ => (pe_op (catA K) (pe_callTy (ctup K) (by rfl) T.b_tuple (by decide +kernel) (pa_cons (pe_lc (own := [("y", 5)]) (g := (gName 5)) (by rfl) sc_put_in.nd (piT K (pv 3)) (blkOk_by (by kernel_rfl)) (fun _ _ _ _ _ => (pg_name (i := 5) sc_put_in.nd rfl (Or.inl rfl))) (fun _ _ _ _ _ => pts_nil) (fun _ _ _ _ _ => (pe_ix (ixT K) (pe_ix (ixT K) (pv 0) (pv 6) (fun _ _ => rfl)) (pv 5) (fun _ _ => rfl)))) pa_nil)) (pe_op (repS K) (pe_tup (pa_cons (pe_ix (ixT K) (pe_ix (ixT K) (pv 0) (pv 6) (fun _ _ => rfl)) (pv 1) (fun _ _ => rfl)) pa_nil)) (pe_callB (clen K) (by rfl) T.b_len (by decide +kernel) (pa_cons (pv 2) pa_nil))))))
      (pss_cons (ps_set (i := 7) sc_put_in.nd rfl (Or.inr rfl) (pe_callTy (ctup K) (by rfl) T.b_tuple (by decide +kernel) (pa_cons (pe_lc (own := [("y", 5)]) (g := (gName 5)) (by rfl) sc_put_in.nd (piT K (pv 3)) (blkOk_by (by kernel_rfl)) (fun _ _ _ _ _ => (pg_name (i := 5) sc_put_in.nd rfl (Or.inl rfl))) (fun _ _ _ _ _ => pts_nil) (fun _ _ _ _ _ => (pe_ix (ixT K) (pe_ix (ixT K) (pv 0) (pv 1) (fun _ _ => rfl)) (pv 5) (fun _ _ => rfl)))) pa_nil)))
      (pss_one (ps_ret (pe_callTy (ctup K) (by rfl) T.b_tuple (by decide +kernel) (pa_cons (pe_op op_cat (pv 4) (pe_lc (own := [("line", 8)]) (g := (gName 8)) (by rfl) sc_put_in.nd (piT K (pv 2)) (blkOk_by (by kernel_rfl)) (fun _ _ _ _ _ => (pg_name (i := 8) sc_put_in.nd rfl (Or.inl rfl))) (fun _ _ _ _ _ => pts_nil) (fun _ _ _ _ _ => (pe_op (catA K) (pv 7) (pv 8))))) pa_nil))))))))))), ?_⟩
  obtain ⟨a, b, n, m, p, wf, of, rfl, hw, sw, ho, so, hp, hnm, k⟩ := h
  have sp := sw.pos
  have op := so.pos
  have sn := sw.le
  refine q_drop (c_callV (v := .non) (ea_cons (ev_var rfl) ea_nil) fun H1 e1 Q1 q => ⟨a, n, wf, rfl, hw.m e1, sw, q⟩) fun H1 e1 => ?_
  refine q_drop (c_callV (v := .non) (ea_cons (e_lenW (hw.m e1) (ev_var rfl)) (ea_cons (ev_var rfl) ea_nil)) fun H2 e2 Q1 q => ⟨n, p, rfl, hp, q⟩) fun H2 e2 => ?_
  refine q_drop (c_callV (v := .non) (ea_cons (ev_var rfl) ea_nil) fun H3 e3 Q1 q => ⟨b, m, of, rfl, ho.m ((e1.trans e2).trans e3), so, q⟩) fun H3 e3 => ?_
  have e13 := (e1.trans e2).trans e3
  refine q_drop (c_callV (v := .non) (ea_cons (e_add (e_sub (e_lenW (hw.m e13) (ev_var rfl)) ev_c) (e_lenW (ho.m e13) (ev_var rfl))) ea_nil) fun H3 e3 Q1 q => ⟨_, rfl, by omega, q⟩) fun H4 e4 => ?_
  have e14 := e13.trans e4
  have hw4 := hw.m e14
  have ho4 := ho.m e14
  refine q_asgP (c_call2P (R := IsT ((List.range (n - 1)).map fun i => V.int (skp p i : Int))) (e_lenW hw4 (ev_var rfl)) (e_tup1 (ev_var rfl)) fun v H5 e5 ⟨t, ev, ht⟩ Q1 q => ⟨n, t, [(p : Int)], by rw [ev], by omega, ht, fun v H6 e6 ⟨r, ys, ev, hr, ey⟩ => q v H6 e6 ⟨r, ev, ?_⟩⟩) fun v H5 e5 ⟨r, ev, hr⟩ => ?_
  · rw [hr, ey]
    have e : ((List.range n).filter fun (i : Nat) => !decide ((i : Int) ∈ [(p : Int)])) = (List.range n).filter fun i => !decide (i = p) := List.filter_congr fun i _ => by
      have : ((i : Int) ∈ [(p : Int)]) ↔ i = p := by rw [List.mem_singleton]; omega
      by_cases h : i = p
      · rw [decide_eq_true h, decide_eq_true (this.mpr h)]
      · rw [decide_eq_false h, decide_eq_false (fun z => h (this.mp z))]
    rw [e, filter_skp hp, List.map_map]
    rfl
  · subst ev
    have hw5 := hw4.m e5
    have ho5 := ho4.m e5
    refine q_asgN (lcPA (R := fun i v H' => IsT ((List.range (n - 1 + m)).map fun j => V.int (putW n p wf of i j)) v H') (tn_tup (ev_var rfl) hr) (by omega) (fun _ _ => rfl) (fun i hi => ?_) (fun _ => IsT.mt)) fun u xs H6 hu e6 hx hP => ?_
    · have sk := skp_lt hp hi
      refine (e_catA (EvP.isT (e_tupN (EvN.of (lcA (c := fun j => V.int (wf (skp p i) (skp p j))) (tn_tup (ev_var rfl) hr) (by omega) (fun _ _ => rfl) fun j hj => e_web hw5 (ev_var rfl) (ev_var rfl) (ev_var rfl) rfl rfl sk.1 (skp_lt hp hj).1)) m_eq))
        (e_repS (e_tup1 (e_web hw5 (ev_var rfl) (ev_var rfl) (ev_var rfl) rfl rfl sk.1 hp)) (e_lenW ho5 (ev_var rfl)) ⟨by omega, by omega⟩) (by simp; omega)).imp fun v H' _ r => ?_
      rw [rep_row, row_app] at r
      have e : ((List.range (n - 1 + m)).map fun j => if j < n - 1 then V.int (wf (skp p i) (skp p j)) else V.int (wf (skp p i) p)) = (List.range (n - 1 + m)).map fun j => V.int (putW n p wf of i j) := List.map_congr_left fun j _ => by
        unfold putW
        rw [if_pos hi]
        split <;> rfl
      rw [← e]
      exact r
    · have hw6 := hw5.m e6
      have hr6 := e6 _ _ hr
      have lx := hP.length
      rw [List.length_range] at lx
      refine q_asgP (EvP.isT (e_tupN (EvN.of (lcA (c := fun j => V.int (wf p (skp p j))) (tn_tup (ev_var rfl) hr6) (by omega) (fun _ _ => rfl) fun j hj => e_web hw6 (ev_var rfl) (ev_var rfl) (ev_var rfl) rfl rfl hp (skp_lt hp hj).1)) m_eq)) fun v H7 e7 ⟨o, ev, hov⟩ => ?_
      subst ev
      have ho7 := (ho5.m e6).m e7
      obtain ⟨rt, h3, h4⟩ := id ho7
      refine s_retP (e_tupN (n_cat (ev_var rfl) (e7 _ _ hx) (lcPA (R := fun i v H' => IsT ((List.range (n - 1 + m)).map fun j => V.int (putW n p wf of (n - 1 + i) j)) v H') (tn_tup (ev_var rfl) h3) (by omega) (fun _ _ => rfl) (fun i hi => ?_) (fun _ => IsT.mt)) (fun _ _ _ e r => Paired.mono (fun _ _ r => IsT.mt _ _ _ (ExT.of e) r) r) ⟨by omega, fun zs H' r => by have := r.length; rw [List.length_range] at this; omega⟩)
        (fun _ _ _ e ⟨zs, h1, r⟩ => ⟨zs, h1, Paired.mono (fun _ _ r => IsT.mt _ _ _ (ExT.of e) r) r⟩)) fun v H8 e8 ⟨q, ys, ev, hq, zs, ey, r⟩ => ?_
      · refine (e_catA (EvP.tup (ev_var rfl) hov) (EvP.tup (ev_var rfl) (h4 i hi)) (by simp; omega)).imp fun v H' _ r => ?_
        rw [row_app] at r
        have e : ((List.range (n - 1 + m)).map fun j => if j < n - 1 then V.int (wf p (skp p j)) else V.int (of i (j - (n - 1)))) = (List.range (n - 1 + m)).map fun j => V.int (putW n p wf of (n - 1 + i) j) := List.map_congr_left fun j _ => by
          have e1 : putW n p wf of (n - 1 + i) j = if j < n - 1 then wf p (skp p j) else of i (j - (n - 1)) := by
            unfold putW
            rw [if_neg (by omega : ¬ n - 1 + i < n - 1), Nat.add_sub_cancel_left]
          rw [e1]
          split <;> rfl
        rw [← e]
        exact r
      · subst ey
        refine k v H8 ((((e14.trans e5).trans e6).trans e7).trans e8) ⟨q, ev, web_two hq (Paired.mono (fun _ _ r => IsT.mt _ _ _ (ExT.of (e7.trans e8)) r) hP) r⟩
end
end Sg
set_option maxHeartbeats 4000000
namespace Sg
open PySem PySem.Spec PyProof.Rows L2 Evl
local macro_rules | `(tactic| walk_at "ev") => `(tactic| first
  | exact ev_c
  | exact ev_var rfl
  | assumption
  | refine e_neg (by walk_at "ev")
  | refine e_add (by walk_at "ev") (by walk_at "ev")
  | refine e_sub (by walk_at "ev") (by walk_at "ev")
  | refine e_web (by assumption) (by walk_at "ev") (by walk_at "ev") (by walk_at "ev") rfl rfl (by omega) (by omega)
  | refine e_lenW (by assumption) (by walk_at "ev")
  | refine e_eq (by walk_at "ev") (by walk_at "ev")
  | refine e_ne (by walk_at "ev") (by walk_at "ev")
  | refine e_lt (by walk_at "ev") (by walk_at "ev")
  | refine e_le (by walk_at "ev") (by walk_at "ev")
  | refine e_gt (by walk_at "ev") (by walk_at "ev")
  | refine e_ge (by walk_at "ev") (by walk_at "ev")
  | refine e_isN (by walk_at "ev")
  | refine e_notN (by walk_at "ev"))
section
variable {P : Program} {w : World} {K : PySem.W.Frag} {mg : Str → Option Value} {base : Heap}
/-- a list of places -/
abbrev LN (l : List Nat) : HO := .lst (l.map fun (z : Nat) => V.int (z : Int))
def sp_way_up : Sp := fun vs H Q _ => ∃ (a : Addr) (n x : Nat) (par : Nat → Option Nat) (rk : Nat → Nat), vs = [.ref a, .int (x : Int)] ∧ H a = some (.lst ((List.range n).map fun i => pv? (par i))) ∧ x < n ∧ n ≤ 10 ∧
  (∀ v, v < n → rk v < n ∧ ∀ q, par v = some q → q < n ∧ rk q < rk v) ∧
  ∀ p l H2, H p = none → Ex H H2 → H2 p = some (LN l) → l.head? = some x → (l.length = 1 → par x = none) → l.length ≤ 20 → Q (.ref p) H2
theorem sc_way_up : FnScope ["parents", "place", "way"] ["parents", "place"] (defScope (top 29)) := ⟨rfl, rfl, rfl, by decide +kernel, rfl, by decide +kernel, by decide +kernel⟩
theorem ok_way_up (T : Top K mg)  : Cal P w K mg base 1 "way_up" ["parents", "place"] sp_way_up := by
  obtain ⟨f, fd, F, gF⟩ := T.d_way_up
  obtain ⟨tm, hmost⟩ := T.most
  refine ⟨⟨f, fd, ?_, gF, F.kp, F.bindsN fun _ _ _ _ _ _ us hl => match us, hl with | [_, _], _ => rfl⟩⟩
  refine F.ok sc_way_up (fun vs H Q E h => ?_) (fun cdv A outer s H vs Q E hr h => ?_)
  · repeat (first | (obtain ⟨rfl, _⟩ := h; rfl) | (obtain ⟨_, h⟩ := h))
  unfold sp_way_up at h
  refine (fun (z : ∃ t, PSs (cxOf CX0 P w K mg base ["parents", "place", "way"] "way_up" (defScope (top 29)) f cdv A outer s H E).nox (defBody (top 29)) t ∧ t { nx := fun _ H' => Q .non H', rt := Q } (L2.start ["parents", "place", "way"] vs) H) => by
    obtain ⟨t, h1, h2⟩ := z
    exact ⟨t, h1.nox, h2⟩) ?_
  refine ⟨_, (pss_cons (ps_set (i := 2) sc_way_up.nd rfl (Or.inl rfl) (pe_lst (pa_cons (pv 1) pa_nil)))
      (pss_cons (ps_while PassesOwn.never (pt_cmpR op_notN (pe_ix (ixL K) (pv 0) (pe_ix (ixL K) (pv 2) (pe_un un_neg pe_int) (fun _ _ => rfl)) (fun _ _ => rfl)) pe_non (nomark _)) (pss_one (ps_expr (bApp K (pv 2) (pa_cons (pe_ix (ixL K) (pv 0) (pe_ix (ixL K) (pv 2) (pe_un un_neg pe_int) (fun _ _ => rfl)) (fun _ _ => rfl)) pa_nil)))))
      (pss_one (ps_ret (pv 2))))), ?_⟩
  obtain ⟨a, n, x, par, rk, rfl, ha, hx, hn, hr2, k⟩ := h
  refine q_asgL (el_lst (ea_cons (ev_var rfl) ea_nil) (by simp)) fun p H1 hp e1 h1 => ?_
  refine s_while (D := { nx := _, rt := Q }) (fun m σ' H' => ∃ (l : List Nat) (z : Nat), σ' = [some (.ref a), some (.int (x : Int)), some (.ref p)] ∧ Ex H H' ∧ H' p = some (LN (l ++ [z])) ∧ (l ++ [z]).head? = some x ∧ z < n ∧ m = rk z ∧ l.length + rk z ≤ 15 ∧ (l = [] → z = x)) (rk x)
    ⟨[], x, rfl, e1, h1, rfl, hx, rfl, by have := (hr2 x hx).1; simp; omega, fun _ => rfl⟩ ?_
  rintro m σ' H' ⟨l, z, rfl, e2, hl, hh, hz, rfl, hb, h0⟩
  have ha2 := e2 _ _ ha
  have hl' : H' p = some (.lst ((l.map fun (z : Nat) => V.int (z : Int)) ++ [V.int (z : Int)])) := by rw [hl, LN, List.map_append]; rfl
  have hi := e_ixLR (K := K) (σ := [some (V.ref a), some (V.int (x : Int)), some (V.ref p)]) (ta := tVar 0) ha2 (ev_var rfl) (e_last (K := K) (ev_var (i := 2) rfl) hl') rfl hz
  refine ⟨_, et_test (e_notN hi), fun hb' H3 e3 => ?_, fun hb' H3 e3 => ?_⟩
  · rw [pv_non] at hb'
    obtain ⟨q, hq⟩ : ∃ q, par z = some q := by
      cases hp2 : par z with
      | none => rw [hp2] at hb'; cases hb'
      | some q => exact ⟨q, rfl⟩
    obtain ⟨r1, r2⟩ := hr2 z hz
    obtain ⟨r3, r4⟩ := r2 q hq
    refine ⟨fun σ' H' => ∃ (l : List Nat) (z : Nat), σ' = [some (.ref a), some (.int (x : Int)), some (.ref p)] ∧ Ex H H' ∧ H' p = some (LN (l ++ [z])) ∧ (l ++ [z]).head? = some x ∧ z < n ∧ rk z = rk q ∧ l.length + rk z ≤ 15 ∧ (l = [] → z = x), fun σ2 H2 ⟨l, z, a1, a2, a3, a4, a5, a6, a7, a8⟩ => ⟨rk q, r4, l, z, a1, a2, a3, a4, a5, a6.symm, a7, a8⟩, ?_⟩
    refine s_app (e3 _ _ hl') (ev_var rfl) (hi.mono e3) (by simp; omega) fun H4 e4 => ⟨l ++ [z], q, rfl, Ex.mut ((e2.trans e3).trans e4) hp, ?_, ?_, r3, rfl, by rw [List.length_append]; simp; omega, fun z => by simp at z⟩
    · rw [upd_same, LN, hq, List.map_append, List.map_append]
      rfl
    · rw [List.head?_append, hh]
      rfl
  · rw [pv_non] at hb'
    have hq : par z = none := by
      cases hp2 : par z with
      | none => rfl
      | some q => rw [hp2] at hb'; cases hb'
    refine s_ret (ev_var rfl) fun H4 e4 => k p (l ++ [z]) H4 hp ((e2.trans e3).trans e4) ((e3.trans e4) _ _ hl) hh (fun h1 => ?_) (by rw [List.length_append]; simp; omega)
    have : l = [] := by
      rw [List.length_append] at h1
      exact List.eq_nil_of_length_eq_zero (by simp at h1; rw [h1]; rfl)
    rw [← h0 this]
    exact hq
def sp_ring_by : Sp := fun vs H Q _ => ∃ (a : Addr) (ns : List Int), vs = [.ref a] ∧ H a = some (.lst (ns.map V.int)) ∧ 2 ≤ ns.length ∧ ns.length ≤ 50 ∧ RetP (fun v _ => ∃ b, v = .ref b) H Q
theorem sc_ring_by : FnScope ["row", "at", "ring"] ["row"] (defScope (top 23)) := ⟨rfl, rfl, rfl, by decide +kernel, rfl, by decide +kernel, by decide +kernel⟩
theorem ok_ring_by (T : Top K mg)  : Cal P w K mg base 1 "ring_by" ["row"] sp_ring_by := by
  obtain ⟨f, fd, F, gF⟩ := T.d_ring_by
  obtain ⟨tm, hmost⟩ := T.most
  refine ⟨⟨f, fd, ?_, gF, F.kp, F.bindsN fun _ _ _ _ _ _ us hl => match us, hl with | [_], _ => rfl⟩⟩
  refine F.ok sc_ring_by (fun vs H Q E h => ?_) (fun cdv A outer s H vs Q E hr h => ?_)
  · repeat (first | (obtain ⟨rfl, _⟩ := h; rfl) | (obtain ⟨_, h⟩ := h))
  unfold sp_ring_by at h
  refine (fun (z : ∃ t, PSs (cxOf CX0 P w K mg base ["row", "at", "ring"] "ring_by" (defScope (top 23)) f cdv A outer s H E).nox (defBody (top 23)) t ∧ t { nx := fun _ H' => Q .non H', rt := Q } (L2.start ["row", "at", "ring"] vs) H) => by
    obtain ⟨t, h1, h2⟩ := z
    exact ⟨t, h1.nox, h2⟩) ?_
  refine ⟨_, (pss_cons (ps_set (i := 1) sc_ring_by.nd rfl (Or.inl rfl) (bIdx K (pv 0) (pa_cons (pe_callB (cmin K rfl) (by rfl) T.b_min (by decide +kernel) (pa_cons (pv 0) pa_nil)) pa_nil)))
      (pss_cons (ps_set (i := 2) sc_ring_by.nd rfl (Or.inl rfl) (pe_op (catA K) (pe_callTy (ctup K) (by rfl) T.b_tuple (by decide +kernel) (pa_cons (pe_slice (slL K) (pv 0) (po_some (pv 1)) po_none) pa_nil)) (pe_callTy (ctup K) (by rfl) T.b_tuple (by decide +kernel) (pa_cons (pe_slice (slL K) (pv 0) po_none (po_some (pv 1))) pa_nil))))
      (pss_one (ps_ret (pe_ifExp (pt_cmpR op_lt (pe_ix (ixT K) (pv 2) pe_int (fun _ _ => rfl)) (pe_ix (ixT K) (pv 2) (pe_un un_neg pe_int) (fun _ _ => rfl)) (nomark _)) (pv 2) (pe_op (catA K) (pe_slice (slT K) (pv 2) po_none (po_some pe_int)) (peBT K (pv 2) (po_some pe_int)))))))), ?_⟩
  obtain ⟨a, ns, rfl, ha, h2, h50, k⟩ := h
  refine q_asgP (e_ixmin rfl ha (by omega)) fun v H1 e1 ⟨j, ev, hj⟩ => ?_
  subst ev
  have ha1 := e1 _ _ ha
  have hjl : j ≤ (ns.map V.int).length := by rw [List.length_map]; omega
  obtain ⟨m1, hm1, hl1⟩ := cut_ints ns (some (j : Int)) none
  obtain ⟨m2, hm2, hl2⟩ := cut_ints ns none (some (j : Int))
  rw [cut_hi hjl, List.length_map] at hl1
  rw [cut_lo hjl] at hl2
  refine q_asgP (e_catA (xs := m1.map V.int) (ys := m2.map V.int) (EvP.isT (e_tupN (EvN.of (by rw [← hm1]; exact el_sl (ev_var rfl) (eo_some (ev_var rfl)) eo_none (sq_of ha1))) m_eq)) (EvP.isT (e_tupN (EvN.of (by rw [← hm2]; exact el_sl (ev_var rfl) eo_none (eo_some (ev_var rfl)) (sq_of ha1))) m_eq)) (by rw [List.length_map, List.length_map]; omega)) fun v H2 e2 ⟨r, ev, hr⟩ => ?_
  subst ev
  rw [← List.map_append] at hr
  have hlen : (m1 ++ m2).length = ns.length := by rw [List.length_append]; omega
  generalize m1 ++ m2 = ms at hr hlen
  have g1 : (ms.map V.int)[1]? = some (V.int (ms.getD 1 0)) := by
    rw [List.getElem?_map, List.getD_eq_getElem?_getD, List.getElem?_eq_getElem (by omega)]
    rfl
  obtain ⟨front, z, hfz⟩ : ∃ front z, ms = front ++ [z] := ⟨ms.dropLast, ms.getLast (by intro q; rw [q] at hlen; simp at hlen; omega), (List.dropLast_concat_getLast _).symm⟩
  have g2 : atI (ms.map V.int) (-1) = some (V.int z) := by
    rw [hfz, List.map_append]
    exact atI_last _ _
  refine s_retP (R := fun v _ => ∃ b, v = .ref b) (e_ifP (et_test (e_lt (e_ixT (k := 1) (ev_var rfl) hr ev_c rfl g1) (ev_op (ev_var rfl) (e_neg ev_c) (rv_ixT (st_of hr) g2)))) (fun _ => (EvP.of (ev_var rfl)).imp fun v H' _ h => ⟨r, h⟩)
    fun _ => (e_catS (k := 50) (l := 50) (e_slS (ev_var rfl) hr eo_none (eo_some ev_c) (by rw [List.length_map]; omega)) (e_backS (ev_var rfl) hr (eo_some ev_c) (by rw [List.length_map]; omega) (by rw [List.length_map]; omega)) (by omega)).imp fun v H' _ ⟨a, xs, ev, _⟩ => ⟨a, ev⟩) fun v H3 e3 r => k v H3 ((e1.trans e2).trans e3) r
def sp_ring_through : Sp := fun vs H Q _ => ∃ (a : Addr) (n x y : Nat) (par : Nat → Option Nat) (rk : Nat → Nat), vs = [.ref a, .int (x : Int), .int (y : Int)] ∧ H a = some (.lst ((List.range n).map fun i => pv? (par i))) ∧ x < n ∧ y < n ∧ x ≠ y ∧ n ≤ 10 ∧
  (∀ v, v < n → rk v < n ∧ ∀ q, par v = some q → q < n ∧ rk q < rk v) ∧ ¬ (par x = none ∧ par y = none) ∧ RetP (fun v _ => ∃ b, v = .ref b) H Q
theorem two_last {l : List Nat} (h : 1 < l.length) : ∃ f u v, l = f ++ [u, v] := by
  obtain ⟨f, v, rfl⟩ : ∃ f v, l = f ++ [v] := ⟨l.dropLast, l.getLast (by intro q; rw [q] at h; simp at h), (List.dropLast_concat_getLast _).symm⟩
  rw [List.length_append] at h
  obtain ⟨g, u, rfl⟩ : ∃ g u, f = g ++ [u] := ⟨f.dropLast, f.getLast (by intro q; rw [q] at h; simp at h), (List.dropLast_concat_getLast _).symm⟩
  exact ⟨g, u, v, by rw [List.append_assoc]; rfl⟩
theorem sc_ring_through : FnScope ["parents", "x", "y", "one", "other"] ["parents", "x", "y"] (defScope (top 30)) := ⟨rfl, rfl, rfl, by decide +kernel, rfl, by decide +kernel, by decide +kernel⟩
theorem ok_ring_through (T : Top K mg) (C_ring_by : Cal P w K mg base 1 "ring_by" ["row"] sp_ring_by) (C_way_up : Cal P w K mg base 1 "way_up" ["parents", "place"] sp_way_up) : Cal P w K mg base 2 "ring_through" ["parents", "x", "y"] sp_ring_through := by
  obtain ⟨f, fd, F, gF⟩ := T.d_ring_through
  obtain ⟨tm, hmost⟩ := T.most
  refine ⟨⟨f, fd, ?_, gF, F.kp, F.bindsN fun _ _ _ _ _ _ us hl => match us, hl with | [_, _, _], _ => rfl⟩⟩
  refine F.ok sc_ring_through (fun vs H Q E h => ?_) (fun cdv A outer s H vs Q E hr h => ?_)
  · repeat (first | (obtain ⟨rfl, _⟩ := h; rfl) | (obtain ⟨_, h⟩ := h))
  unfold sp_ring_through at h
  refine (fun (z : ∃ t, PSs (cxOf CX0 P w K mg base ["parents", "x", "y", "one", "other"] "ring_through" (defScope (top 30)) f cdv A outer s H E).nox (defBody (top 30)) t ∧ t { nx := fun _ H' => Q .non H', rt := Q } (L2.start ["parents", "x", "y", "one", "other"] vs) H) => by
    obtain ⟨t, h1, h2⟩ := z
    exact ⟨t, h1.nox, h2⟩) ?_
  refine ⟨_, (pss_cons (ps_par (i := 3) (j := 4) rfl sc_ring_through.nd rfl rfl (by decide) rfl rfl (pa_cons (C_way_up.pe hr (by rfl) (pa_cons (pv 0) (pa_cons (pv 1) pa_nil))) (pa_cons (C_way_up.pe hr (by rfl) (pa_cons (pv 0) (pa_cons (pv 2) pa_nil))) pa_nil)) (by rfl))
      (pss_cons (ps_while PassesOwn.never (PW.pt (pw_and (pt_cmpR op_gt (pe_callB (clen K) (by rfl) T.b_len (by decide +kernel) (pa_cons (pv 3) pa_nil)) pe_int (nomark _)) (pw_and (pt_cmpR op_gt (pe_callB (clen K) (by rfl) T.b_len (by decide +kernel) (pa_cons (pv 4) pa_nil)) pe_int (nomark _)) (pw_and1 (pt_cmpR op_eq (pe_ix (ixL K) (pv 3) (pe_un un_neg pe_int) (fun _ _ => rfl)) (pe_ix (ixL K) (pv 4) (pe_un un_neg pe_int) (fun _ _ => rfl)) (nomark _)))))) (pss_cons (ps_expr (bPop K (pv 3)))
      (pss_one (ps_expr (bPop K (pv 4))))))
      (pss_one (ps_ret (C_ring_by.pe hr (by rfl) (pa_cons (pe_op op_cat (pv 3) (peBL K (pv 4) (po_some (pe_un un_neg pe_int)))) pa_nil)))))), ?_⟩
  obtain ⟨a, n, x, y, par, rk, rfl, ha, hx, hy, hxy, hn, hr2, hroot, k⟩ := h
  refine q_par2 (P := fun xs _ => ∃ l, xs = l.map (fun (z : Nat) => V.int (z : Int)) ∧ l.head? = some x ∧ (l.length = 1 → par x = none) ∧ l.length ≤ 20) (P' := fun xs _ => ∃ l, xs = l.map (fun (z : Nat) => V.int (z : Int)) ∧ l.head? = some y ∧ (l.length = 1 → par y = none) ∧ l.length ≤ 20)
    (c_callN (ea_cons (ev_var rfl) (ea_cons (ev_var rfl) ea_nil)) fun H1 e1 Q1 q => ⟨a, n, x, par, rk, rfl, e1 _ _ ha, hx, hn, hr2, fun p l H2 hp e2 h2 a1 a2 a3 => q p _ H2 hp e2 h2 ⟨l, rfl, a1, a2, a3⟩⟩)
    (c_callN (ea_cons (ev_var rfl) (ea_cons (ev_var rfl) ea_nil)) fun H1 e1 Q1 q => ⟨a, n, y, par, rk, rfl, e1 _ _ ha, hy, hn, hr2, fun p l H2 hp e2 h2 a1 a2 a3 => q p _ H2 hp e2 h2 ⟨l, rfl, a1, a2, a3⟩⟩) ?_
  rintro p1 p2 xs ys H1 hp1 hp2 hne e1 h1 h2 ⟨_, l1, rfl, b1, b2, b3⟩ ⟨l2, rfl, c1, c2, c3⟩
  refine q_while (fun m σ' H' => ∃ l1 l2 : List Nat, σ' = [some (.ref a), some (.int (x : Int)), some (.int (y : Int)), some (.ref p1), some (.ref p2)] ∧ Ex H H' ∧ H' p1 = some (LN l1) ∧ H' p2 = some (LN l2) ∧ l1.head? = some x ∧ l2.head? = some y ∧ ¬ (l1.length = 1 ∧ l2.length = 1) ∧ l1.length ≤ 20 ∧ l2.length ≤ 20 ∧ m = l1.length) l1.length
    ⟨l1, l2, rfl, e1, h1, h2, b1, c1, fun z => hroot ⟨b2 z.1, c2 z.2⟩, b3, c3, rfl⟩ ?_
  rintro m σ' H' ⟨l1, l2, rfl, e2, h1, h2, b1, c1, hno, l3, l4, rfl⟩
  have n1 : l1 ≠ [] := fun z => by rw [z] at b1; cases b1
  have n2 : l2 ≠ [] := fun z => by rw [z] at c1; cases c1
  have hl1 : (l1.map fun (z : Nat) => V.int (z : Int)).length = l1.length := List.length_map ..
  have hl2 : (l2.map fun (z : Nat) => V.int (z : Int)).length = l2.length := List.length_map ..
  -- what follows the loop
  have fin : ∀ H3, Ex H' H3 → tRet (tCall sp_ring_by [] E0 (tCons (tOp rCat (tVar 3) (tBackL K (tVar 4) (tPart (tUn (rU fun i => .int (-i)) (tC (.int 2)))))) tNil)) { nx := fun _ H' => Q .non H', rt := Q } [some (.ref a), some (.int (x : Int)), some (.int (y : Int)), some (.ref p1), some (.ref p2)] H3 := fun H3 e3 => by
    have h1' := e3 _ _ h1
    have h2' := e3 _ _ h2
    refine s_retP (c_call1N (n_cat (P := fun zs _ => zs = (l2.map fun (z : Nat) => V.int (z : Int)).dropLast.reverse) (ev_var rfl) h1' (EvN.of (n_backL (ev_var rfl) h2' (eo_some (e_neg ev_c)) (by intro z; rw [z] at hl2; exact n2 (List.eq_nil_of_length_eq_zero hl2.symm)))) m_eq ⟨by omega, fun zs _ hz => by rw [hz, List.length_reverse, List.length_dropLast]; omega⟩) fun p zs H4 hp e4 hz ⟨us, ez, eu⟩ Q1 q => ?_) fun v H4 e4 r => k v H4 ((e2.trans e3).trans e4) r
    refine ⟨p, (l1.map fun (z : Nat) => (z : Int)) ++ (l2.map fun (z : Nat) => (z : Int)).dropLast.reverse, rfl, ?_, ?_, ?_, q⟩
    · rw [hz, ez, eu, List.map_append, List.map_map, List.map_reverse, List.map_dropLast, List.map_map]
      rfl
    · have := List.length_pos_iff.mpr n1
      have := List.length_pos_iff.mpr n2
      rw [List.length_append, List.length_map, List.length_reverse, List.length_dropLast, List.length_map]
      omega
    · rw [List.length_append, List.length_map, List.length_reverse, List.length_dropLast, List.length_map]
      omega
  by_cases c : 1 < l1.length ∧ 1 < l2.length
  · obtain ⟨f1, u1, v1, r1⟩ := two_last c.1
    obtain ⟨f2, u2, v2, r2⟩ := two_last c.2
    have g1 : H' p1 = some (.lst ((f1.map fun (z : Nat) => V.int (z : Int)) ++ [V.int (u1 : Int), V.int (v1 : Int)])) := by rw [h1, r1, LN, List.map_append]; rfl
    have g2 : H' p2 = some (.lst ((f2.map fun (z : Nat) => V.int (z : Int)) ++ [V.int (u2 : Int), V.int (v2 : Int)])) := by rw [h2, r2, LN, List.map_append]; rfl
    refine ⟨_, et_and (et_test (e_gt (e_lenL (ev_var rfl) h1) ev_c)) (fun _ => et_and (et_test (e_gt (e_lenL (ev_var rfl) h2) ev_c)) fun _ => et_test (e_eq (e_last2 (ev_var rfl) g1) (e_last2 (ev_var rfl) g2))), fun hb H3 e3 => ?_, fun _ H3 e3 => fin H3 e3⟩
    have huu : u1 = u2 := by
      rw [Bool.and_eq_true, Bool.and_eq_true] at hb
      have := of_decide_eq_true hb.2.2
      omega
    refine ⟨fun σ' H' => ∃ l1' l2' : List Nat, σ' = [some (.ref a), some (.int (x : Int)), some (.int (y : Int)), some (.ref p1), some (.ref p2)] ∧ Ex H H' ∧ H' p1 = some (LN l1') ∧ H' p2 = some (LN l2') ∧ l1'.head? = some x ∧ l2'.head? = some y ∧ ¬ (l1'.length = 1 ∧ l2'.length = 1) ∧ l1'.length ≤ 20 ∧ l2'.length ≤ 20 ∧ l1'.length = l1.length - 1, fun σ2 H2 ⟨l1', l2', a1, a2, a3, a4, a5, a6, a7, a8, a9, a10⟩ => ⟨l1'.length, by omega, l1', l2', a1, a2, a3, a4, a5, a6, a7, a8, a9, rfl⟩, ?_⟩
    have g1' : H3 p1 = some (.lst (((f1 ++ [u1]).map fun (z : Nat) => V.int (z : Int)) ++ [V.int (v1 : Int)])) := by rw [e3 _ _ g1, List.map_append, List.append_assoc]; rfl
    have g2' : H3 p2 = some (.lst (((f2 ++ [u2]).map fun (z : Nat) => V.int (z : Int)) ++ [V.int (v2 : Int)])) := by rw [e3 _ _ g2, List.map_append, List.append_assoc]; rfl
    refine q_pop (a := p1) rfl g1' ?_
    refine s_pop (a := p2) rfl (by rw [upd_ne hne.symm]; exact g2') ?_
    refine ⟨f1 ++ [u1], f2 ++ [u2], rfl, Ex.mut (Ex.mut (e2.trans e3) hp1) hp2, by rw [upd_ne hne, upd_same], upd_same, ?_, ?_, ?_, ?_, ?_, ?_⟩
    · rw [← b1, r1]
      cases f1 <;> rfl
    · rw [← c1, r2]
      cases f2 <;> rfl
    · rintro ⟨z1, z2⟩
      rw [List.length_append] at z1 z2
      have f1n : f1 = [] := List.eq_nil_of_length_eq_zero (by simp at z1; rw [z1]; rfl)
      have f2n : f2 = [] := List.eq_nil_of_length_eq_zero (by simp at z2; rw [z2]; rfl)
      rw [r1, f1n] at b1
      rw [r2, f2n] at c1
      have q1 : u1 = x := Option.some.inj b1
      have q2 : u2 = y := Option.some.inj c1
      exact hxy (by rw [← q1, ← q2, huu])
    · rw [r1, List.length_append] at l3
      rw [List.length_append]
      simp at l3 ⊢
      omega
    · rw [r2, List.length_append] at l4
      rw [List.length_append]
      simp at l4 ⊢
      omega
    · rw [r1, List.length_append, List.length_append]
      simp
  · refine ⟨false, ?_, (fun z => by cases z), fun _ H3 e3 => fin H3 e3⟩
    by_cases c1 : 1 < l1.length
    · exact et_is (et_and (a := true) (b := false) (et_test (ev_is (e_gt (e_lenL (ev_var rfl) h1) ev_c) (by rw [hl1, decide_eq_true (by omega)]))) (fun _ => et_is (et_and (a := false) (b := false) (et_test (ev_is (e_gt (e_lenL (ev_var rfl) h2) ev_c) (by rw [hl2, decide_eq_false (by omega)]))) (fun z => by cases z)) rfl)) rfl
    · exact et_is (et_and (a := false) (b := false) (et_test (ev_is (e_gt (e_lenL (ev_var rfl) h1) ev_c) (by rw [hl1, decide_eq_false (by omega)]))) (fun z => by cases z)) rfl
end
end Sg
set_option maxHeartbeats 4000000
namespace Sg
open PySem PySem.Spec PyProof.Rows L2 Evl
local macro_rules | `(tactic| walk_at "ev") => `(tactic| first
  | exact ev_c
  | exact ev_var rfl
  | assumption
  | refine e_neg (by walk_at "ev")
  | refine e_add (by walk_at "ev") (by walk_at "ev")
  | refine e_sub (by walk_at "ev") (by walk_at "ev")
  | refine e_web (by assumption) (by walk_at "ev") (by walk_at "ev") (by walk_at "ev") rfl rfl (by omega) (by omega)
  | refine e_lenW (by assumption) (by walk_at "ev")
  | refine e_eq (by walk_at "ev") (by walk_at "ev")
  | refine e_ne (by walk_at "ev") (by walk_at "ev")
  | refine e_lt (by walk_at "ev") (by walk_at "ev")
  | refine e_le (by walk_at "ev") (by walk_at "ev")
  | refine e_gt (by walk_at "ev") (by walk_at "ev")
  | refine e_ge (by walk_at "ev") (by walk_at "ev")
  | refine e_isN (by walk_at "ev")
  | refine e_notN (by walk_at "ev"))
theorem Sw.W {n : Nat} {wf : Wf} (h : Sw n wf) : SgnW n wf := ⟨h.sgn, h.sym, h.dia⟩
/-- sides at ps, parents at pp, both made behind H0 -/
structure Hs (H0 H' : Hp) (ps pp : Addr) (n : Nat) (s : Nat → Int) (par : Nat → Option Nat) : Prop where
  ex : Ex H0 H'
  s0 : H0 ps = none
  p0 : H0 pp = none
  ne : ps ≠ pp
  hs : H' ps = some (.lst ((List.range n).map fun i => V.int (s i)))
  hp : H' pp = some (.lst ((List.range n).map fun i => pv? (par i)))
section
variable {H0 H' H2 : Hp} {ps pp : Addr} {n : Nat} {s : Nat → Int} {par : Nat → Option Nat}
theorem Hs.ext (h : Hs H0 H' ps pp n s par) (e : Ex H' H2) : Hs H0 H2 ps pp n s par := ⟨h.ex.trans e, h.s0, h.p0, h.ne, e _ _ h.hs, e _ _ h.hp⟩
theorem Hs.setS (h : Hs H0 H' ps pp n s par) {k : Nat} {v : Int} (hk : k < n) : Hs H0 (upd H' ps (.lst (((List.range n).map fun i => V.int (s i)).set k (.int v)))) ps pp n (set1 s k v) par :=
  ⟨Ex.mut h.ex h.s0, h.s0, h.p0, h.ne, by rw [upd_same, set_map (c := V.int) hk], by rw [upd_ne h.ne.symm]; exact h.hp⟩
theorem Hs.setP (h : Hs H0 H' ps pp n s par) {k : Nat} {v : Option Nat} (hk : k < n) : Hs H0 (upd H' pp (.lst (((List.range n).map fun i => pv? (par i)).set k (pv? v)))) ps pp n s (set1 par k v) :=
  ⟨Ex.mut h.ex h.p0, h.s0, h.p0, h.ne, by rw [upd_ne h.ne]; exact h.hs, by rw [upd_same, set_map (c := pv?) hk]⟩
theorem Hs.other (h : Hs H0 H' ps pp n s par) {q : Addr} {o : HO} (h0 : H0 q = none) (h1 : q ≠ ps) (h2 : q ≠ pp) : Hs H0 (upd H' q o) ps pp n s par :=
  ⟨Ex.mut h.ex h0, h.s0, h.p0, h.ne, by rw [upd_ne h1.symm]; exact h.hs, by rw [upd_ne h2.symm]; exact h.hp⟩
end
theorem LN_app (l : List Nat) (z : Nat) : (l ++ [z]).map (fun (z : Nat) => V.int (z : Int)) = l.map (fun (z : Nat) => V.int (z : Int)) ++ [V.int (z : Int)] := by rw [List.map_append]; rfl
section
variable {P : Program} {w : World} {K : PySem.W.Frag} {mg : Str → Option Value} {base : Heap}
def sp_walked : Sp := fun vs H Q _ => ∃ (a : Addr) (n : Nat) (wf : Wf), vs = [.ref a] ∧ WebAt a n wf H ∧ Sw n wf ∧
  ∀ (p ps pp : Addr) (s : Nat → Int) (par : Nat → Option Nat) (rk : Nat → Nat) H2, Ex H H2 → H2 p = some (.tup [.ref ps, .ref pp]) → H2 ps = some (.lst ((List.range n).map fun i => V.int (s i))) → H2 pp = some (.lst ((List.range n).map fun i => pv? (par i))) →
    (∀ v, v < n → s v ≠ 0) → Sv n wf s [] n 0 → Pr n wf s par rk → Q (.ref p) H2
theorem sc_walked : FnScope ["web", "many", "sides", "parents", "start", "here", "x", "y"] ["web"] (defScope (top 31)) := ⟨rfl, rfl, rfl, by decide +kernel, rfl, by decide +kernel, by decide +kernel⟩
theorem ok_walked (T : Top K mg)  : Cal P w K mg base 1 "walked" ["web"] sp_walked := by
  obtain ⟨f, fd, F, gF⟩ := T.d_walked
  obtain ⟨tm, hmost⟩ := T.most
  refine ⟨⟨f, fd, ?_, gF, F.kp, F.bindsN fun _ _ _ _ _ _ us hl => match us, hl with | [_], _ => rfl⟩⟩
  refine F.ok sc_walked (fun vs H Q E h => ?_) (fun cdv A outer s H vs Q E hr h => ?_)
  · repeat (first | (obtain ⟨rfl, _⟩ := h; rfl) | (obtain ⟨_, h⟩ := h))
  unfold sp_walked at h
  refine (fun (z : ∃ t, PSs (cxOf CX0 P w K mg base ["web", "many", "sides", "parents", "start", "here", "x", "y"] "walked" (defScope (top 31)) f cdv A outer s H E).nox (defBody (top 31)) t ∧ t { nx := fun _ H' => Q .non H', rt := Q } (L2.start ["web", "many", "sides", "parents", "start", "here", "x", "y"] vs) H) => by
    obtain ⟨t, h1, h2⟩ := z
    exact ⟨t, h1.nox, h2⟩) ?_
  refine ⟨_, (pss_cons (ps_set (i := 1) sc_walked.nd rfl (Or.inl rfl) (pe_callB (clen K) (by rfl) T.b_len (by decide +kernel) (pa_cons (pv 0) pa_nil)))
      (pss_cons (ps_par (i := 2) (j := 3) rfl sc_walked.nd rfl rfl (by decide) rfl rfl (pa_cons (pe_op op_rep (pe_lst (pa_cons pe_int pa_nil)) (pv 1)) (pa_cons (pe_op op_rep (pe_lst (pa_cons pe_non pa_nil)) (pv 1)) pa_nil)) (by rfl))
      (pss_cons (ps_for PassesOwn.never rfl (pi_range1 (by rfl) T.b_range (pa_cons (pv 1) pa_nil)) (pg_name (i := 4) sc_walked.nd rfl (Or.inl rfl)) (pss_cons (ps_set (i := 5) sc_walked.nd rfl (Or.inl rfl) (pe_ifExp (pt_cmpR op_eq (pe_ix (ixL K) (pv 2) (pv 4) (fun _ _ => rfl)) pe_int (nomark _)) (pe_lst (pa_cons (pv 4) pa_nil)) (pe_lst pa_nil)))
      (pss_cons (ps_asg (peOr K (pe_ix (ixL K) (pv 2) (pv 4) (fun _ _ => rfl)) (pe_one pe_int)) (pg_sub (pv 2) (pv 4) set_list))
      (pss_one (ps_while PassesOwn.never (ptT K (pv 5)) (pss_cons (ps_set (i := 6) sc_walked.nd rfl (Or.inl rfl) (bPop K (pv 5)))
      (pss_one (ps_for PassesOwn.never rfl (pi_range1 (by rfl) T.b_range (pa_cons (pv 1) pa_nil)) (pg_name (i := 7) sc_walked.nd rfl (Or.inl rfl)) (pss_one (ps_if (PW.pt (pw_and (pt_cmpR op_ne (pe_ix (ixT K) (pe_ix (ixT K) (pv 0) (pv 6) (fun _ _ => rfl)) (pv 7) (fun _ _ => rfl)) pe_int (nomark _)) (pw_and1 (pt_cmpR op_eq (pe_ix (ixL K) (pv 2) (pv 7) (fun _ _ => rfl)) pe_int (nomark _))))) (pss_cons (ps_asg (pe_tup (pa_cons (pe_op op_mul (pe_ix (ixL K) (pv 2) (pv 6) (fun _ _ => rfl)) (pe_ix (ixT K) (pe_ix (ixT K) (pv 0) (pv 6) (fun _ _ => rfl)) (pv 7) (fun _ _ => rfl))) (pa_cons (pv 6) pa_nil))) (pgT K rfl (pgs_cons (pg_sub (pv 2) (pv 7) set_list) (pgs_cons (pg_sub (pv 3) (pv 7) set_list) pgs_nil))))
      (pss_one (ps_expr (bApp K (pv 5) (pa_cons (pv 7) pa_nil))))) pss_nil))))))))))
      (pss_one (ps_ret (pe_tup (pa_cons (pv 2) (pa_cons (pv 3) pa_nil)))))))), ?_⟩
  obtain ⟨a, n, wf, rfl, hw, sw, k⟩ := h
  have hn := sw.le
  refine q_asg (e_lenW hw (ev_var rfl)) fun H1 e1 => ?_
  refine q_par2 (EvN.of (n_rep1 ev_c (ev_var rfl) (by omega))) (EvN.of (n_rep1 ev_c (ev_var rfl) (by omega))) ?_
  rintro ps pp xs ys H2 hps hpp hne e2 h1 h2 ⟨_, rfl⟩ rfl
  have hps0 := fresh_back e1 hps
  have hpp0 := fresh_back e1 hpp
  have e12 := e1.trans e2
  refine q_forR1 (ea_cons (ev_var rfl) ea_nil) (by omega) (fun i σ' H' => ∃ (s : Nat → Int) (par : Nat → Option Nat) (rk : Nat → Nat) (o4 o5 o6 o7 : Option V), σ' = [some (.ref a), some (.int (n : Int)), some (.ref ps), some (.ref pp), o4, o5, o6, o7] ∧ Hs H H' ps pp n s par ∧ Sv n wf s [] n 0 ∧ Pr n wf s par rk ∧ ∀ v, v < i → v < n → s v ≠ 0) ?_ ?_ ?_
  · intro H3 e3
    exact ⟨fun _ => 0, fun _ => none, fun _ => 0, none, none, none, none, rfl, ⟨e12.trans e3, hps0, hpp0, hne, e3 _ _ h1, e3 _ _ h2⟩, Sv.start, Pr.start, fun v hv => by omega⟩
  · rintro i σ' H' hi' ⟨s, par, rk, o4, o5, o6, o7, rfl, hH, hS, hP, hA⟩
    have hi : i < n := by omega
    -- here = [start] if sides[start] == 0 else []
    refine q_asgN (P := fun ys _ => ys = (if s i = 0 then [i] else []).map fun (z : Nat) => V.int (z : Int)) (e_ifN (et_test (e_eq (e_ixLR hH.hs (ev_var rfl) (ev_var rfl) rfl hi) ev_c)) (fun hb => ?_) fun hb => ?_) ?_
    · have := of_decide_eq_true hb
      rw [if_pos this]
      exact EvN.of (el_lst (ea_cons (ev_var rfl) ea_nil) (by simp))
    · have := of_decide_eq_false hb
      rw [if_neg this]
      exact EvN.of (el_lst ea_nil (by simp))
    rintro ph ys H3 hph e3 hys rfl
    have hH3 := hH.ext e3
    have ph0 : H ph = none := fresh_back hH.ex hph
    have phs : ph ≠ ps := fun z => by rw [z, hH.hs] at hph; cases hph
    have php : ph ≠ pp := fun z => by rw [z, hH.hp] at hph; cases hph
    -- sides[start] = sides[start] or 1
    refine (fun z => s_setL (D := { nx := _, rt := Q, bk := _, ct := _ }) hH3.hs (e_orI (e_ixLR hH3.hs (ev_var rfl) (ev_var rfl) rfl hi) ev_c) (ev_var rfl) (ev_var rfl) (by rw [range_map_len]; exact hi) z) fun H4 e4 => ?_
    have hH4 := (hH3.ext e4).setS (v := if s i = 0 then 1 else s i) hi
    have hys4 : upd H4 ps (.lst (((List.range n).map fun i => V.int (s i)).set i (.int (if s i = 0 then 1 else s i)))) ph = some (LN (if s i = 0 then [i] else [])) := by rw [upd_ne phs]; exact e4 _ _ hys
    generalize upd H4 ps (.lst (((List.range n).map fun i => V.int (s i)).set i (.int (if s i = 0 then 1 else s i)))) = H5 at hH4 hys4
    -- while here
    refine s_while (D := { nx := _, rt := Q, bk := _, ct := _ }) (fun m σ' H' => ∃ (s : Nat → Int) (par : Nat → Option Nat) (rk : Nat → Nat) (todo : List Nat) (o6 o7 : Option V), σ' = [some (.ref a), some (.int (n : Int)), some (.ref ps), some (.ref pp), some (.int (i : Int)), some (.ref ph), o6, o7] ∧ Hs H H' ps pp n s par ∧ H' ph = some (LN todo) ∧ Sv n wf s todo n 0 ∧ Pr n wf s par rk ∧ (∀ v, v < i + 1 → v < n → s v ≠ 0) ∧ m = todo.length + Un n s ∧ m ≤ n)
      ((if s i = 0 then [i] else []).length + Un n (set1 s i (if s i = 0 then 1 else s i))) ?_ ?_
    · by_cases c : s i = 0
      · simp only [if_pos c] at hH4 hys4 ⊢
        have hu := Un_set (n := n) (s := s) (v := 1) hi c (by decide)
        have hle := Un_le n s
        refine ⟨set1 s i 1, par, _, [i], o6, o7, rfl, hH4, hys4, Sv.begin_ sw.W hS hi c, Pr.begin_ sw.W hS hP hi c, fun v hv hvn => ?_, rfl, by simp; omega⟩
        by_cases e : v = i
        · rw [e, set1_same]; decide
        · rw [set1_ne e]; exact hA v (by omega) hvn
      · have es : set1 s i (s i) = s := by
          funext v
          by_cases e : v = i
          · rw [e, set1_same]
          · rw [set1_ne e]
        simp only [if_neg c, es] at hH4 hys4 ⊢
        have hle := Un_le n s
        refine ⟨s, par, rk, [], o6, o7, rfl, hH4, hys4, hS, hP, fun v hv hvn => ?_, rfl, by simp; omega⟩
        by_cases e : v = i
        · rw [e]; exact c
        · exact hA v (by omega) hvn
    · rintro m σ' H' ⟨s, par, rk, todo, o6, o7, rfl, hH, hT, hS, hP, hA, rfl, hm⟩
      refine ⟨_, et_truthL (ev_var rfl) hT, fun hb H6 e6 => ?_, fun hb H6 e6 => ?_⟩
      · have hne0 : todo ≠ [] := fun z => by rw [z] at hb; cases hb
        obtain ⟨tl, x, rfl⟩ : ∃ tl x, todo = tl ++ [x] := ⟨todo.dropLast, todo.getLast hne0, (List.dropLast_concat_getLast _).symm⟩
        have hx := hS.todo_ok x (by simp)
        refine ⟨fun σ' H' => ∃ (s' : Nat → Int) (par : Nat → Option Nat) (rk : Nat → Nat) (todo : List Nat) (o6 o7 : Option V), σ' = [some (.ref a), some (.int (n : Int)), some (.ref ps), some (.ref pp), some (.int (i : Int)), some (.ref ph), o6, o7] ∧ Hs H H' ps pp n s' par ∧ H' ph = some (LN todo) ∧ Sv n wf s' todo n 0 ∧ Pr n wf s' par rk ∧ (∀ v, v < i + 1 → v < n → s' v ≠ 0) ∧ todo.length + Un n s' = tl.length + Un n s,
          fun σ2 H2 ⟨s', par, rk, todo, o6, o7, a1, a2, a3, a4, a5, a6, a7⟩ => ⟨todo.length + Un n s', by rw [List.length_append]; simp; omega, s', par, rk, todo, o6, o7, a1, a2, a3, a4, a5, a6, rfl, by rw [List.length_append] at hm; omega⟩, ?_⟩
        have hT6 : H6 ph = some (.lst (tl.map (fun (z : Nat) => V.int (z : Int)) ++ [V.int (x : Int)])) := by rw [e6 _ _ hT, LN, LN_app]
        refine q_popv (a := ph) rfl hT6 ?_
        have hH7 := (hH.ext e6).other (o := LN tl) ph0 phs php
        have hT7 : upd H6 ph (LN tl) ph = some (LN tl) := upd_same
        have hS7 : Sv n wf s tl x 0 := hS.take (fun v hv => by rw [List.mem_append, List.mem_singleton] at hv; exact hv) (fun v hv => List.mem_append_left _ hv) (by simp)
        have hm7 : tl.length + Un n s ≤ n := by rw [List.length_append] at hm; simp at hm; omega
        generalize upd H6 ph (LN tl) = H7 at hH7 hT7
        refine s_forR1 (D := { nx := _, rt := Q, bk := _, ct := _ }) (ea_cons (ev_var rfl) ea_nil) (by omega) (fun j σ' H' => ∃ (s' : Nat → Int) (par : Nat → Option Nat) (rk : Nat → Nat) (todo : List Nat) (o7 : Option V), σ' = [some (.ref a), some (.int (n : Int)), some (.ref ps), some (.ref pp), some (.int (i : Int)), some (.ref ph), some (.int (x : Int)), o7] ∧ Hs H H' ps pp n s' par ∧ H' ph = some (LN todo) ∧ Sv n wf s' todo x j ∧ Pr n wf s' par rk ∧ (∀ v, v < i + 1 → v < n → s' v ≠ 0) ∧ todo.length + Un n s' = tl.length + Un n s ∧ s' x ≠ 0) ?_ ?_ ?_
        · intro H8 e8
          exact ⟨s, par, rk, tl, o7, rfl, hH7.ext e8, e8 _ _ hT7, hS7, hP, hA, rfl, hx.2⟩
        · rintro j σ' H8 hj' ⟨s', par, rk, todo, o7, rfl, hH, hT, hS, hP, hA, hU, hsx⟩
          have hj : j < n := by omega
          have hw8 := hw.m hH.ex
          refine s_if (et_and (et_test (e_ne (e_web hw8 (ev_var rfl) (ev_var rfl) (ev_var rfl) rfl rfl hx.1 hj) ev_c)) fun _ => et_test (e_eq (e_ixLR hH.hs (ev_var rfl) (ev_var rfl) rfl hj) ev_c)) (fun hb H9 e9 => ?_) (fun hb H9 e9 => ?_)
          · rw [Bool.and_eq_true] at hb
            have hwz : wf x j ≠ 0 := fun z => by rw [decide_eq_true z] at hb; cases hb.1
            have hsj : s' j = 0 := of_decide_eq_true hb.2
            have hH9 := hH.ext e9
            have hw9 := hw8.m e9
            -- sides[y], parents[y] = (sides[x] * web[x][y], x)
            have bnd : CMul (s' x) (wf x j) := by
              rcases sw.sgn x j hx.1 hj with z | z | z <;> rw [z] <;> exact .inr ⟨by decide, by decide⟩
            refine q_asgG (e_tup2 (e_mul (e_ixLR (k := x) hH9.hs (ev_var rfl) (ev_var rfl) rfl hx.1) (e_web hw9 (ev_var rfl) (ev_var rfl) (ev_var rfl) rfl rfl hx.1 hj) bnd) (ev_var rfl)) fun v H10 e10 ⟨t, ev, ht⟩ => ?_
            subst ev
            have hH10 := hH9.ext e10
            refine ⟨t, _, rfl, st_of ht, rfl, _, _, rfl, ?_⟩
            refine ⟨.ref ps, rfl, .int (j : Int), rfl, ps, _, (j : Int), j, rfl, rfl, hH10.hs, ixN_nat (by rw [range_map_len]; exact hj), ?_⟩
            have hH11 := hH10.setS (v := s' x * wf x j) hj
            refine ⟨_, _, rfl, .ref pp, rfl, .int (j : Int), rfl, pp, _, (j : Int), j, rfl, rfl, hH11.hp, ixN_nat (by rw [range_map_len]; exact hj), ?_⟩
            have hH12 := hH11.setP (v := some x) hj
            refine ⟨rfl, ?_⟩
            have hT12 : upd (upd H10 ps (.lst (((List.range n).map fun i => V.int (s' i)).set j (.int (s' x * wf x j))))) pp (.lst (((List.range n).map fun i => pv? (par i)).set j (pv? (some x)))) ph = some (LN todo) := by
              rw [upd_ne php, upd_ne phs]
              exact (e9.trans e10) _ _ hT
            have hlen : todo.length ≤ n := by omega
            refine s_app hT12 (ev_var rfl) (ev_var rfl) (by rw [List.length_map]; omega) fun H13 e13 => ?_
            have hnz : s' x * wf x j ≠ 0 := by
              have p1 : Pm (s' x) := (hS.sgn x hx.1).resolve_left hsx
              have p2 : Pm (wf x j) := by
                rcases sw.sgn x j hx.1 hj with z | z | z
                · exact .inl z
                · exact .inr z
                · exact absurd z hwz
              exact (p1.mul p2).ne
            have hu := Un_set (n := n) (s := s') (v := s' x * wf x j) hj hsj hnz
            have hxj : x ≠ j := fun z => hsx (by rw [z]; exact hsj)
            refine ⟨set1 s' j (s' x * wf x j), set1 par j (some x), _, todo ++ [j], _, rfl, (hH12.ext e13).other ph0 phs php, by rw [upd_same, LN, LN_app], hS.give sw.W hx.1 hsx hj hsj hwz (fun v => by rw [List.mem_append, List.mem_singleton]), hP.give hx.1 hsx hj hsj hnz, fun v hv hvn => ?_, by rw [List.length_append]; simp; omega, by rw [set1_ne hxj]; exact hsx⟩
            by_cases e : v = j
            · rw [e, set1_same]; exact hnz
            · rw [set1_ne e]; exact hA v hv hvn
          · refine ⟨s', par, rk, todo, _, rfl, hH.ext e9, e9 _ _ hT, hS.pass ?_, hP, hA, hU, hsx⟩
            rw [Bool.and_eq_false_iff] at hb
            rcases hb with hb | hb
            · left
              rw [Bool.not_eq_false'] at hb
              exact of_decide_eq_true hb
            · exact .inr (of_decide_eq_false hb)
        · rintro σ' H8 ⟨s', par, rk, todo, o7, rfl, hH, hT, hS, hP, hA, hU, hsx⟩
          rw [Int.toNat_natCast] at hS
          exact ⟨s', par, rk, todo, _, _, rfl, hH, hT, hS.done, hP, hA, hU⟩
      · have h0 : todo = [] := by
          cases todo with
          | nil => rfl
          | cons _ _ => cases hb
        subst h0
        exact ⟨s, par, rk, _, _, _, _, rfl, hH.ext e6, hS, hP, hA⟩
  · rintro σ' H' ⟨s, par, rk, o4, o5, o6, o7, rfl, hH, hS, hP, hA⟩
    rw [Int.toNat_natCast] at hA
    refine s_retP (e_tup2 (ev_var rfl) (ev_var rfl)) fun v H3 e3 ⟨p, ev, hp⟩ => ?_
    subst ev
    have h3 := hH.ext e3
    exact k p ps pp s par rk H3 h3.ex hp h3.hs h3.hp (fun v hv => hA v hv hv) hS hP
end
end Sg
set_option maxHeartbeats 4000000
namespace Sg
open PySem PySem.Spec PyProof.Rows L2 Evl
local macro_rules | `(tactic| walk_at "ev") => `(tactic| first
  | exact ev_c
  | exact ev_var rfl
  | assumption
  | refine e_neg (by walk_at "ev")
  | refine e_add (by walk_at "ev") (by walk_at "ev")
  | refine e_sub (by walk_at "ev") (by walk_at "ev")
  | refine e_web (by assumption) (by walk_at "ev") (by walk_at "ev") (by walk_at "ev") rfl rfl (by omega) (by omega)
  | refine e_lenW (by assumption) (by walk_at "ev")
  | refine e_eq (by walk_at "ev") (by walk_at "ev")
  | refine e_ne (by walk_at "ev") (by walk_at "ev")
  | refine e_lt (by walk_at "ev") (by walk_at "ev")
  | refine e_le (by walk_at "ev") (by walk_at "ev")
  | refine e_gt (by walk_at "ev") (by walk_at "ev")
  | refine e_ge (by walk_at "ev") (by walk_at "ev")
  | refine e_isN (by walk_at "ev")
  | refine e_notN (by walk_at "ev"))
section
variable {K : PySem.W.Frag} {σ : L2.St} {H H' : Hp} {ta tb tc te : TE} {u : V} {R : V → Hp → Prop} {S : V → Prop}
theorem e_tupP2 (ha : Ev ta σ H u) (hb : EvP tb σ H R) (m : Mono R) : EvP (tTup (tCons ta (tCons tb tNil))) σ H (fun z H' => ∃ a v, z = .ref a ∧ H' a = some (.tup [u, v]) ∧ R v H') := fun H1 e Q q =>
  ha H1 e _ fun H2 e2 => hb H2 (e.trans e2) _ fun v H3 e3 r => ⟨(by show 2 ≤ sizeLine; decide), fun p hp => q _ _ ((e2.trans e3).trans (Ex.new hp)) ⟨p, v, rfl, upd_same, m _ _ _ (Ex.new hp) r⟩⟩
theorem e_tupP1 (ha : EvP ta σ H R) (m : Mono R) (hb : Ev tb σ H u) : EvP (tTup (tCons ta (tCons tb tNil))) σ H (fun z H' => ∃ a v, z = .ref a ∧ H' a = some (.tup [v, u]) ∧ R v H') := fun H1 e Q q =>
  ha H1 e _ fun v H2 e2 r => hb H2 (e.trans e2) _ fun H3 e3 => ⟨(by show 2 ≤ sizeLine; decide), fun p hp => q _ _ ((e2.trans e3).trans (Ex.new hp)) ⟨p, v, rfl, upd_same, m _ _ _ (e3.trans (Ex.new hp)) r⟩⟩
theorem e_ix1 (ha : EvP ta σ H (fun v H' => ∃ p v0 v1, v = .ref p ∧ H' p = some (.tup [v0, v1]) ∧ S v1)) : EvP (tOp (rIxT K) ta (tC (.int 1))) σ H (fun v _ => S v) := fun H1 e Q q =>
  ha H1 e _ fun v H2 e2 ⟨p, v0, v1, ev, hp, hs⟩ => ⟨p, [v0, v1], 1, v1, ev, rfl, st_of hp, atI_nat (j := 1) rfl, q v1 H2 e2 hs⟩
theorem e_isNP (ha : EvP ta σ H (fun v _ => S v)) : EvP (tOp (fun x y H Q => y = .non ∧ Q (.bl (decide (x = .non))) H) ta (tC .non)) σ H (fun v _ => ∃ u, v = .bl (decide (u = .non)) ∧ S u) := fun H1 e Q q =>
  ha H1 e _ fun v H2 e2 r => ⟨rfl, q _ H2 e2 ⟨v, rfl, r⟩⟩
end
theorem val_ties {n : Nat} {wf : Wf} {s : Nat → Int} (W : SgnW n wf) (hs : ∀ v, v < n → Pm (s v)) (h : ∀ x y, x < y → y < n → wf x y ≠ 0 → s x * s y = wf x y) : Val n wf s := by
  have key : ∀ x y, x < y → y < n → wf x y ≠ 0 → s y = s x * wf x y := fun x y h1 h2 h3 => by
    rw [← h x y h1 h2 h3, ← Int.mul_assoc, (hs x (by omega)).sq, Int.one_mul]
  refine ⟨hs, fun x y hx hy hw => ?_⟩
  rcases Nat.lt_trichotomy x y with c | c | c
  · exact key x y c hy hw
  · subst c; exact absurd (W.2.2 x hx) hw
  · have hw' : wf y x ≠ 0 := by rw [W.2.1 y x hy hx]; exact hw
    have := key y x c hx hw'
    rw [this, W.2.1 y x hy hx, Int.mul_assoc]
    have p : Pm (wf x y) := by
      rcases W.1 x y hx hy with z | z | z
      · exact .inl z
      · exact .inr z
      · exact absurd z hw
    rw [p.sq, Int.mul_one]
section
variable {P : Program} {w : World} {K : PySem.W.Frag} {mg : Str → Option Value} {base : Heap}
def sp_balance_of : Sp := fun vs H Q _ => ∃ (a : Addr) (n : Nat) (wf : Wf), vs = [.ref a] ∧ WebAt a n wf H ∧ Sw n wf ∧ RetP (fun v H' => ∃ p v0 v1, v = .ref p ∧ H' p = some (.tup [v0, v1]) ∧ (v1 = .non ↔ Bal n wf)) H Q
theorem sc_balance_of : FnScope ["web", "sides", "parents", "x", "y", "place", "side"] ["web"] (defScope (top 32)) := ⟨rfl, rfl, rfl, by decide +kernel, rfl, by decide +kernel, by decide +kernel⟩
theorem ok_balance_of (T : Top K mg) (C_ties_of : Cal P w K mg base 1 "ties_of" ["web"] sp_ties_of) (C_ring_through : Cal P w K mg base 2 "ring_through" ["parents", "x", "y"] sp_ring_through) (C_walked : Cal P w K mg base 1 "walked" ["web"] sp_walked) : Cal P w K mg base 3 "balance_of" ["web"] sp_balance_of := by
  obtain ⟨f, fd, F, gF⟩ := T.d_balance_of
  obtain ⟨tm, hmost⟩ := T.most
  refine ⟨⟨f, fd, ?_, gF, F.kp, F.bindsN fun _ _ _ _ _ _ us hl => match us, hl with | [_], _ => rfl⟩⟩
  refine F.ok sc_balance_of (fun vs H Q E h => ?_) (fun cdv A outer s H vs Q E hr h => ?_)
  · repeat (first | (obtain ⟨rfl, _⟩ := h; rfl) | (obtain ⟨_, h⟩ := h))
  unfold sp_balance_of at h
  refine (fun (z : ∃ t, PSs (cxOf CX0 P w K mg base ["web", "sides", "parents", "x", "y", "place", "side"] "balance_of" (defScope (top 32)) f cdv A outer s H E).nox (defBody (top 32)) t ∧ t { nx := fun _ H' => Q .non H', rt := Q } (L2.start ["web", "sides", "parents", "x", "y", "place", "side"] vs) H) => by
    obtain ⟨t, h1, h2⟩ := z
    exact ⟨t, h1.nox, h2⟩) ?_
  refine ⟨_, (pss_cons (ps_asg (C_walked.pe hr (by rfl) (pa_cons (pv 0) pa_nil)) (pgT K rfl (pgs_cons (pg_name (i := 1) sc_balance_of.nd rfl (Or.inl rfl)) (pgs_cons (pg_name (i := 2) sc_balance_of.nd rfl (Or.inl rfl)) pgs_nil))))
      (pss_cons (ps_for PassesOwn.never rfl (piL K (C_ties_of.pe hr (by rfl) (pa_cons (pv 0) pa_nil))) (pgT K rfl (pgs_cons (pg_name (i := 3) sc_balance_of.nd rfl (Or.inl rfl)) (pgs_cons (pg_name (i := 4) sc_balance_of.nd rfl (Or.inl rfl)) pgs_nil))) (pss_one (ps_if (pt_cmpR op_ne (pe_op op_mul (pe_ix (ixL K) (pv 1) (pv 3) (fun _ _ => rfl)) (pe_ix (ixL K) (pv 1) (pv 4) (fun _ _ => rfl))) (pe_ix (ixT K) (pe_ix (ixT K) (pv 0) (pv 3) (fun _ _ => rfl)) (pv 4) (fun _ _ => rfl)) (nomark _)) (pss_one (ps_ret (pe_tup (pa_cons pe_non (pa_cons (C_ring_through.pe hr (by rfl) (pa_cons (pv 2) (pa_cons (pv 3) (pa_cons (pv 4) pa_nil)))) pa_nil))))) pss_nil)))
      (pss_one (ps_ret (pe_tup (pa_cons (pe_callTy (ctup K) (by rfl) T.b_tuple (by decide +kernel) (pa_cons (pe_lc (own := [("place", 5), ("side", 6)]) (g := (gTup K 2 (gCons (gName 5) (gCons (gName 6) gNil)))) (by rfl) sc_balance_of.nd (piE K (by rfl) T.b_enumerate (pa_cons (pv 1) pa_nil)) (blkOk_by (by kernel_rfl)) (fun _ _ _ _ _ => (pgT K rfl (pgs_cons (pg_name (i := 5) sc_balance_of.nd rfl (Or.inl rfl)) (pgs_cons (pg_name (i := 6) sc_balance_of.nd rfl (Or.inl rfl)) pgs_nil)))) (fun _ _ _ _ _ => (pts_one (pt_cmpR op_eq (pv 6) pe_int (nomark _)))) (fun _ _ _ _ _ => (pv 5))) pa_nil)) (pa_cons pe_non pa_nil))))))), ?_⟩
  obtain ⟨a, n, wf, rfl, hw, sw, k⟩ := h
  have hn := sw.le
  refine q_asgG (R := fun v H2 => ∃ (p ps pp : Addr) (s : Nat → Int) (par : Nat → Option Nat) (rk : Nat → Nat), v = .ref p ∧ H2 p = some (.tup [.ref ps, .ref pp]) ∧ H2 ps = some (.lst ((List.range n).map fun i => V.int (s i))) ∧ H2 pp = some (.lst ((List.range n).map fun i => pv? (par i))) ∧ (∀ v, v < n → s v ≠ 0) ∧ Sv n wf s [] n 0 ∧ Pr n wf s par rk)
    (c_call (ea_cons (ev_var rfl) ea_nil) fun H1 e1 Q1 q => ⟨a, n, wf, rfl, hw.m e1, sw, fun p ps pp s par rk H2 e2 b1 b2 b3 b4 b5 b6 => q _ H2 e2 ⟨p, ps, pp, s, par, rk, rfl, b1, b2, b3, b4, b5, b6⟩⟩) ?_
  rintro _ H1 e1 ⟨p, ps, pp, s, par, rk, rfl, hp, hps, hpp, hall, hS, hP⟩
  refine g_pair hp ?_
  have hw1 := hw.m e1
  have hpm : ∀ v, v < n → Pm (s v) := fun v hv => (hS.sgn v hv).resolve_left (hall v hv)
  refine q_for (tn_pairs (c_callN (ea_cons (ev_var rfl) ea_nil) fun H2 e2 Q1 q => ⟨a, n, wf, rfl, hw1.m e2, hn, q⟩)) (fun H2 i σ' H' => ∃ o3 o4, σ' = [some (.ref a), some (.ref ps), some (.ref pp), o3, o4, none, none] ∧ Ex H2 H' ∧ ∀ k, k < i → k < (tiesL n wf).length → s ((tiesL n wf).getD k (0, 0)).1 * s ((tiesL n wf).getD k (0, 0)).2 = wf ((tiesL n wf).getD k (0, 0)).1 ((tiesL n wf).getD k (0, 0)).2)
    (fun H2 e2 => ⟨none, none, rfl, Ex.refl _, fun k hk => by omega⟩) (fun H2 i σ' H' _ _ ⟨_, _, _, e, _⟩ => e) ?_ ?_
  · rintro H2 i σ' H' e2 hi ⟨o3, o4, rfl, e3, hok⟩ H5 e5
    obtain ⟨t1, t2, t3⟩ := ties_at hi
    have e15 := (e2.trans e3).trans e5
    have hps5 := e15 _ _ hps
    have hw5 := hw1.m e15
    have t1n := Nat.lt_trans t1 t2
    refine s_if (et_test (e_ne (e_mul (e_ixLR hps5 (ev_var rfl) (ev_var rfl) rfl t1n) (e_ixLR hps5 (ev_var rfl) (ev_var rfl) rfl t2) ?_) (e_web hw5 (ev_var rfl) (ev_var rfl) (ev_var rfl) rfl rfl t1n t2))) (fun hb H6 e6 => ?_) fun hb H6 e6 => ?_
    · rcases hpm _ t1n with z | z <;> rw [z] <;> exact .inl ⟨by decide, by decide⟩
    · have hne : s ((tiesL n wf).getD i (0, 0)).1 * s ((tiesL n wf).getD i (0, 0)).2 ≠ wf ((tiesL n wf).getD i (0, 0)).1 ((tiesL n wf).getD i (0, 0)).2 := fun z => by rw [decide_eq_true z] at hb; cases hb
      have e16 := e15.trans e6
      refine s_retP (e_tupP2 (R := fun v _ => ∃ b, v = .ref b) ev_c (c_call (ea_cons (ev_var rfl) (ea_cons (ev_var rfl) (ea_cons (ev_var rfl) ea_nil))) fun H7 e7 Q1 q => ⟨pp, n, _, _, par, rk, rfl, (e16.trans e7) _ _ hpp, t1n, t2, by omega, hn, fun v hv => ?_, hP.roots _ _ t1n t2 t3 (hall _ t1n) (hall _ t2), q⟩) (fun _ _ _ _ h => h)) fun v H7 e7 ⟨r, v1, ev, hr, b, eb⟩ => k v H7 ((e1.trans e16).trans e7) ⟨r, _, v1, ev, hr, ?_⟩
      · obtain ⟨r1, r2⟩ := hP.rank v hv (hall v hv)
        exact ⟨by omega, fun q hq => ⟨(r2 q hq).1, (r2 q hq).2.2⟩⟩
      · constructor
        · intro z; rw [eb] at z; cases z
        · intro bl
          refine absurd bl (hS.clash t1n t2 (hall _ t1n) (hall _ t2) t3 fun z => hne ?_)
          rw [z, ← Int.mul_assoc, (hpm _ t1n).sq, Int.one_mul]
    · have heq : s ((tiesL n wf).getD i (0, 0)).1 * s ((tiesL n wf).getD i (0, 0)).2 = wf ((tiesL n wf).getD i (0, 0)).1 ((tiesL n wf).getD i (0, 0)).2 := by
        rw [Bool.not_eq_false'] at hb
        exact of_decide_eq_true hb
      refine ⟨_, _, rfl, (e3.trans e5).trans e6, fun k hk hkl => ?_⟩
      by_cases ek : k = i
      · rw [ek]; exact heq
      · exact hok k (by omega) hkl
  · rintro H2 σ' H' e2 ⟨o3, o4, rfl, e3, hok⟩
    have e13 := e2.trans e3
    have hps3 := e13 _ _ hps
    have hbal : Bal n wf := ⟨s, val_ties sw.W hpm fun x y h1 h2 h3 => by
      obtain ⟨i, hi, ei⟩ := List.getElem_of_mem (mem_ties.mpr ⟨h1, h2, h3⟩)
      have := hok i hi hi
      rw [List.getD_eq_getElem?_getD, List.getElem?_eq_getElem hi, ei] at this
      exact this⟩
    refine s_retP (e_tupP1 (R := fun _ _ => True) ((e_tupN (EvN.of (lcD (f := fun i => decide (s i = 1)) (c := fun i => V.int (i : Int)) (tn_enumL (ev_var rfl) hps3) (by omega) (fun _ _ => rfl) (fun i hi => et_test (e_eq (ev_var rfl) ev_c)) (fun i hi _ => ev_var rfl))) m_eq).imp fun _ _ _ _ => trivial) (fun _ _ _ _ h => h) ev_c) fun v H4 e4 ⟨r, v0, ev, hr, _⟩ => k v H4 ((e1.trans e13).trans e4) ⟨r, v0, _, ev, hr, fun _ => hbal, fun _ => rfl⟩
def sp_some_bad_ring : Sp := fun vs H Q _ => ∃ (a : Addr) (n : Nat) (wf : Wf), vs = [.ref a] ∧ WebAt a n wf H ∧ Sw n wf ∧ RetP (fun v _ => v = .non ↔ Bal n wf) H Q
theorem sc_some_bad_ring : FnScope ["web"] ["web"] (defScope (top 33)) := ⟨rfl, rfl, rfl, by decide +kernel, rfl, by decide +kernel, by decide +kernel⟩
theorem ok_some_bad_ring (T : Top K mg) (C_balance_of : Cal P w K mg base 3 "balance_of" ["web"] sp_balance_of) : Cal P w K mg base 4 "some_bad_ring" ["web"] sp_some_bad_ring := by
  obtain ⟨f, fd, F, gF⟩ := T.d_some_bad_ring
  obtain ⟨tm, hmost⟩ := T.most
  refine ⟨⟨f, fd, ?_, gF, F.kp, F.bindsN fun _ _ _ _ _ _ us hl => match us, hl with | [_], _ => rfl⟩⟩
  refine F.ok sc_some_bad_ring (fun vs H Q E h => ?_) (fun cdv A outer s H vs Q E hr h => ?_)
  · repeat (first | (obtain ⟨rfl, _⟩ := h; rfl) | (obtain ⟨_, h⟩ := h))
  unfold sp_some_bad_ring at h
  refine (fun (z : ∃ t, PSs (cxOf CX0 P w K mg base ["web"] "some_bad_ring" (defScope (top 33)) f cdv A outer s H E).nox (defBody (top 33)) t ∧ t { nx := fun _ H' => Q .non H', rt := Q } (L2.start ["web"] vs) H) => by
    obtain ⟨t, h1, h2⟩ := z
    exact ⟨t, h1.nox, h2⟩) ?_
  refine ⟨_, (pss_one (ps_ret (pe_ix (ixT K) (C_balance_of.pe hr (by rfl) (pa_cons (pv 0) pa_nil)) pe_int (fun _ _ => rfl)))), ?_⟩
  obtain ⟨a, n, wf, rfl, hw, sw, k⟩ := h
  exact s_retP (e_ix1 (S := fun v => v = .non ↔ Bal n wf) (c_call (ea_cons (ev_var rfl) ea_nil) fun H1 e1 Q1 q => ⟨a, n, wf, rfl, hw.m e1, sw, q⟩)) fun v H1 e1 r => k v H1 e1 r
def sp_is_balanced : Sp := fun vs H Q _ => ∃ (a : Addr) (n : Nat) (wf : Wf), vs = [.ref a] ∧ WebAt a n wf H ∧ Sw n wf ∧ RetP (fun v _ => ∃ b, v = .bl b ∧ (b = true ↔ Bal n wf)) H Q
theorem sc_is_balanced : FnScope ["web"] ["web"] (defScope (top 34)) := ⟨rfl, rfl, rfl, by decide +kernel, rfl, by decide +kernel, by decide +kernel⟩
theorem ok_is_balanced (T : Top K mg) (C_check_web : Cal P w K mg base 4 "check_web" ["value"] sp_check_web) (C_some_bad_ring : Cal P w K mg base 4 "some_bad_ring" ["web"] sp_some_bad_ring) : Cal P w K mg base 5 "is_balanced" ["web"] sp_is_balanced := by
  obtain ⟨f, fd, F, gF⟩ := T.d_is_balanced
  obtain ⟨tm, hmost⟩ := T.most
  refine ⟨⟨f, fd, ?_, gF, F.kp, F.bindsN fun _ _ _ _ _ _ us hl => match us, hl with | [_], _ => rfl⟩⟩
  refine F.ok sc_is_balanced (fun vs H Q E h => ?_) (fun cdv A outer s H vs Q E hr h => ?_)
  · repeat (first | (obtain ⟨rfl, _⟩ := h; rfl) | (obtain ⟨_, h⟩ := h))
  unfold sp_is_balanced at h
  refine (fun (z : ∃ t, PSs (cxOf CX0 P w K mg base ["web"] "is_balanced" (defScope (top 34)) f cdv A outer s H E).nox (defBody (top 34)) t ∧ t { nx := fun _ H' => Q .non H', rt := Q } (L2.start ["web"] vs) H) => by
    obtain ⟨t, h1, h2⟩ := z
    exact ⟨t, h1.nox, h2⟩) ?_
  refine ⟨_, (pss_cons (ps_expr (C_check_web.pe hr (by rfl) (pa_cons (pv 0) pa_nil)))
      (pss_one (ps_ret (pe_cmpR op_isN (C_some_bad_ring.pe hr (by rfl) (pa_cons (pv 0) pa_nil)) pe_non (nomark _))))), ?_⟩
  obtain ⟨a, n, wf, rfl, hw, sw, k⟩ := h
  refine q_drop (c_callV (v := .non) (ea_cons (ev_var rfl) ea_nil) fun H1 e1 Q1 q => ⟨a, n, wf, rfl, hw.m e1, sw, q⟩) fun H1 e1 => ?_
  refine s_retP (e_isNP (S := fun v => v = .non ↔ Bal n wf) (c_call (ea_cons (ev_var rfl) ea_nil) fun H2 e2 Q1 q => ⟨a, n, wf, rfl, hw.m (e1.trans e2), sw, q⟩)) fun v H2 e2 ⟨u, ev, hu⟩ => k v H2 (e1.trans e2) ⟨_, ev, ?_⟩
  rw [decide_eq_true_iff]
  exact hu
/-- the lot's places part friends from foes -/
def CampL (n : Nat) (wf : Wf) (l : List Nat) : Prop := ∀ x y, x < y → y < n → wf x y ≠ 0 → ((!decide (decide (x ∈ l) = decide (y ∈ l))) = decide (wf x y = -1))
def sp_is_camp_of : Sp := fun vs H Q _ => ∃ (a b : Addr) (n : Nat) (wf : Wf) (l : List Nat), vs = [.ref a, .ref b] ∧ WebAt a n wf H ∧ n ≤ 10 ∧ LotAt b l H ∧ CampL n wf l ∧ RetV (.bl true) H Q
theorem lot_ints (l : List Nat) : l.map (fun (x : Nat) => V.int (x : Int)) = (l.map fun (x : Nat) => (x : Int)).map V.int := by rw [List.map_map]; rfl
theorem mem_cast (x : Nat) (l : List Nat) : decide ((x : Int) ∈ l.map fun (x : Nat) => (x : Int)) = decide (x ∈ l) := by
  have h : ((x : Int) ∈ l.map fun (x : Nat) => (x : Int)) ↔ x ∈ l := by
    rw [List.mem_map]
    constructor
    · rintro ⟨y, hy, e⟩
      have : y = x := by omega
      rw [← this]; exact hy
    · intro h; exact ⟨x, h, rfl⟩
  by_cases c : x ∈ l
  · rw [decide_eq_true c, decide_eq_true (h.mpr c)]
  · rw [decide_eq_false c, decide_eq_false fun z => c (h.mp z)]
theorem e_inN {K : PySem.W.Frag} {σ : L2.St} {H : Hp} {ta tb : TE} {p : Addr} {l : List Nat} {x : Nat} (ha : Ev ta σ H (.int (x : Int))) (hb : Ev tb σ H (.ref p)) (hp : LotAt p l H) : Ev (tOp (rIn K false) ta tb) σ H (.bl (decide (x ∈ l))) := by
  unfold LotAt at hp
  rw [lot_ints] at hp
  have h := e_in (K := K) ha hb hp
  rw [mem_cast] at h
  exact h
theorem sc_is_camp_of : FnScope ["web", "lot", "x", "y"] ["web", "lot"] (defScope (top 35)) := ⟨rfl, rfl, rfl, by decide +kernel, rfl, by decide +kernel, by decide +kernel⟩
theorem ok_is_camp_of (T : Top K mg) (C_ties_of : Cal P w K mg base 1 "ties_of" ["web"] sp_ties_of) : Cal P w K mg base 2 "is_camp_of" ["web", "lot"] sp_is_camp_of := by
  obtain ⟨f, fd, F, gF⟩ := T.d_is_camp_of
  obtain ⟨tm, hmost⟩ := T.most
  refine ⟨⟨f, fd, ?_, gF, F.kp, F.bindsN fun _ _ _ _ _ _ us hl => match us, hl with | [_, _], _ => rfl⟩⟩
  refine F.ok sc_is_camp_of (fun vs H Q E h => ?_) (fun cdv A outer s H vs Q E hr h => ?_)
  · repeat (first | (obtain ⟨rfl, _⟩ := h; rfl) | (obtain ⟨_, h⟩ := h))
  unfold sp_is_camp_of at h
  refine (fun (z : ∃ t, PSs (cxOf CX0 P w K mg base ["web", "lot", "x", "y"] "is_camp_of" (defScope (top 35)) f cdv A outer s H E).nox (defBody (top 35)) t ∧ t { nx := fun _ H' => Q .non H', rt := Q } (L2.start ["web", "lot", "x", "y"] vs) H) => by
    obtain ⟨t, h1, h2⟩ := z
    exact ⟨t, h1.nox, h2⟩) ?_
  refine ⟨_, (pss_one (ps_ret (pe_callB (call_all_ K rfl) (by rfl) T.b_all (by decide +kernel) (pa_cons (pe_lc (own := [("x", 2), ("y", 3)]) (g := (gTup K 2 (gCons (gName 2) (gCons (gName 3) gNil)))) (by rfl) sc_is_camp_of.nd (piL K (C_ties_of.pe hr (by rfl) (pa_cons (pv 0) pa_nil))) (blkOk_by (by kernel_rfl)) (fun _ _ _ _ _ => (pgT K rfl (pgs_cons (pg_name (i := 2) sc_is_camp_of.nd rfl (Or.inl rfl)) (pgs_cons (pg_name (i := 3) sc_is_camp_of.nd rfl (Or.inl rfl)) pgs_nil)))) (fun _ _ _ _ _ => pts_nil) (fun _ _ _ _ _ => (pe_cmpR op_eq (pe_cmpR op_ne (pe_cmpR (inSq K) (pv 2) (pv 1) (by rfl)) (pe_cmpR (inSq K) (pv 3) (pv 1) (by rfl)) (nomark _)) (pe_cmpR op_eq (pe_ix (ixT K) (pe_ix (ixT K) (pv 0) (pv 2) (fun _ _ => rfl)) (pv 3) (fun _ _ => rfl)) (pe_un un_neg pe_int) (nomark _)) (nomark _)))) pa_nil)))), ?_⟩
  obtain ⟨a, b, n, wf, l, rfl, hw, hn, hb, hc, k⟩ := h
  have hl := ties_len n wf hn
  refine s_ret (e_allT (lcA (tn_pairs (c_callN (ea_cons (ev_var rfl) ea_nil) fun H1 e1 Q1 q => ⟨a, n, wf, rfl, hw.m e1, hn, q⟩)) (by omega) (fun _ _ => rfl) fun i hi => ?_)) fun H1 e1 => k H1 e1
  obtain ⟨t1, t2, t3⟩ := ties_at hi
  refine ev_is (e_eqB (e_neB (e_inN (ev_var rfl) (ev_var rfl) hb) (e_inN (ev_var rfl) (ev_var rfl) hb)) (e_eq (e_web hw (ev_var rfl) (ev_var rfl) (ev_var rfl) rfl rfl (Nat.lt_trans t1 t2) t2) (e_neg ev_c))) ?_
  rw [decide_eq_true (hc _ _ t1 t2 t3)]
def sp_is_camp : Sp := fun vs H Q _ => ∃ (a b : Addr) (n : Nat) (wf : Wf) (l : List Nat), vs = [.ref a, .ref b] ∧ WebAt a n wf H ∧ Sw n wf ∧ LotAt b l H ∧ l.length ≤ 100 ∧ (∀ x ∈ l, x < n) ∧ (∀ k, k + 1 < l.length → l.getD k 0 < l.getD (k + 1) 0) ∧ CampL n wf l ∧ RetV (.bl true) H Q
theorem sc_is_camp : FnScope ["web", "lot"] ["web", "lot"] (defScope (top 36)) := ⟨rfl, rfl, rfl, by decide +kernel, rfl, by decide +kernel, by decide +kernel⟩
theorem ok_is_camp (T : Top K mg) (C_check_lot : Cal P w K mg base 4 "check_lot" ["many", "value"] sp_check_lot) (C_check_web : Cal P w K mg base 4 "check_web" ["value"] sp_check_web) (C_is_camp_of : Cal P w K mg base 2 "is_camp_of" ["web", "lot"] sp_is_camp_of) : Cal P w K mg base 5 "is_camp" ["web", "lot"] sp_is_camp := by
  obtain ⟨f, fd, F, gF⟩ := T.d_is_camp
  obtain ⟨tm, hmost⟩ := T.most
  refine ⟨⟨f, fd, ?_, gF, F.kp, F.bindsN fun _ _ _ _ _ _ us hl => match us, hl with | [_, _], _ => rfl⟩⟩
  refine F.ok sc_is_camp (fun vs H Q E h => ?_) (fun cdv A outer s H vs Q E hr h => ?_)
  · repeat (first | (obtain ⟨rfl, _⟩ := h; rfl) | (obtain ⟨_, h⟩ := h))
  unfold sp_is_camp at h
  refine (fun (z : ∃ t, PSs (cxOf CX0 P w K mg base ["web", "lot"] "is_camp" (defScope (top 36)) f cdv A outer s H E).nox (defBody (top 36)) t ∧ t { nx := fun _ H' => Q .non H', rt := Q } (L2.start ["web", "lot"] vs) H) => by
    obtain ⟨t, h1, h2⟩ := z
    exact ⟨t, h1.nox, h2⟩) ?_
  refine ⟨_, (pss_cons (ps_expr (C_check_web.pe hr (by rfl) (pa_cons (pv 0) pa_nil)))
      (pss_cons (ps_expr (C_check_lot.pe hr (by rfl) (pa_cons (pe_callB (clen K) (by rfl) T.b_len (by decide +kernel) (pa_cons (pv 0) pa_nil)) (pa_cons (pv 1) pa_nil))))
      (pss_one (ps_ret (C_is_camp_of.pe hr (by rfl) (pa_cons (pv 0) (pa_cons (pv 1) pa_nil))))))), ?_⟩
  obtain ⟨a, b, n, wf, l, rfl, hw, sw, hb, h1, h2, h3, hc, k⟩ := h
  refine q_drop (c_callV (v := .non) (ea_cons (ev_var rfl) ea_nil) fun H1 e1 Q1 q => ⟨a, n, wf, rfl, hw.m e1, sw, q⟩) fun H1 e1 => ?_
  refine q_drop (c_callV (v := .non) (ea_cons (e_lenW (hw.m e1) (ev_var rfl)) (ea_cons (ev_var rfl) ea_nil)) fun H2 e2 Q1 q => ⟨n, b, l, rfl, (e1.trans e2) _ _ hb, h1, h2, h3, q⟩) fun H2 e2 => ?_
  exact s_ret (c_callV (ea_cons (ev_var rfl) (ea_cons (ev_var rfl) ea_nil)) fun H3 e3 Q1 q => ⟨a, b, n, wf, l, rfl, hw.m ((e1.trans e2).trans e3), sw.le, ((e1.trans e2).trans e3) _ _ hb, hc, q⟩) fun H3 e3 => k H3 ((e1.trans e2).trans e3)
end
end Sg
set_option maxHeartbeats 4000000
/-! data compared by value -/
namespace Sg
open PySem PySem.Spec PyProof.Rows L2 Evl
theorem lay_all : ∀ {ds : List PyData}, (∀ d, d ∈ ds → PyData.canLay0 d = true) → PyData.canLayAll0 ds = true
  | [], _ => by simp [PyData.canLayAll0]
  | d :: ds, h => by
    rw [PyData.canLayAll0, h d List.mem_cons_self, lay_all fun e he => h e (List.mem_cons_of_mem _ he)]; rfl
theorem depth_all {k : Nat} : ∀ {ds : List PyData}, (∀ d, d ∈ ds → PyData.depth d ≤ k) → PyData.depthAll ds ≤ k
  | [], _ => by simp [PyData.depthAll]
  | d :: ds, h => by
    have h1 := h d List.mem_cons_self
    have h2 := depth_all fun e he => h e (List.mem_cons_of_mem d he)
    simp only [PyData.depthAll]
    omega
/-- data of depth at most k, layable -/
def Dk (k : Nat) (d : PyData) : Prop := PyData.canLay0 d = true ∧ PyData.depth d ≤ k
theorem Dk.int (i : Int) : Dk 0 (.int i) := ⟨by simp [PyData.canLay0], by simp [PyData.depth]⟩
theorem Dk.list {k : Nat} {ds : List PyData} (h : ∀ d, d ∈ ds → Dk k d) : Dk (k + 1) (.list ds) := ⟨by simp only [PyData.canLay0]; exact lay_all fun d hd => (h d hd).1, by
  have := depth_all fun d hd => (h d hd).2
  simp only [PyData.depth]
  omega⟩
theorem Dk.tup {k : Nat} {ds : List PyData} (h : ∀ d, d ∈ ds → Dk k d) : Dk (k + 1) (.tuple ds) := ⟨by simp only [PyData.canLay0]; exact lay_all fun d hd => (h d hd).1, by
  have := depth_all fun d hd => (h d hd).2
  simp only [PyData.depth]
  omega⟩
theorem Dk.shaped {k : Nat} {d : PyData} (h : Dk k d) (hk : k ≤ 60) : SeqAt.shaped d = true := by
  show (d.canLay0 && decide (d.depth ≤ 64)) = true
  rw [h.1, decide_eq_true (Nat.le_trans h.2 (by omega))]; rfl
theorem Dk.refl {k : Nat} {d : PyData} (h : Dk k d) : PyData.eqv d d = true := by
  first
  | exact PySem.P3.eqv_refl d h.1
  | exact PySem.PyData.eqv_refl d h.1
  | exact PySem.SeqAt.eqv_refl d h.1
theorem Dk.rowD (f : Nat → Int) (n : Nat) : Dk 1 (.tuple ((List.range n).map fun j => PyData.int (f j))) := Dk.tup fun d hd => by
  obtain ⟨j, _, rfl⟩ := List.mem_map.mp hd
  exact Dk.int _
def rowD (n : Nat) (f : Nat → Int) : PyData := .tuple ((List.range n).map fun j => PyData.int (f j))
def webD (n : Nat) (w : Wf) : PyData := .tuple ((List.range n).map fun i => rowD n (w i))
theorem Dk.webD (n : Nat) (w : Wf) : Dk 2 (webD n w) := Dk.tup fun d hd => by
  obtain ⟨j, _, rfl⟩ := List.mem_map.mp hd
  exact Dk.rowD _ _
def pairD (p : Nat × Nat) : PyData := .tuple [.int (p.1 : Int), .int (p.2 : Int)]
theorem Dk.pairD (p : Nat × Nat) : Dk 1 (pairD p) := Dk.tup fun d hd => by
  rcases List.mem_cons.mp hd with rfl | h
  · exact Dk.int _
  · rw [List.mem_singleton] at h; subst h; exact Dk.int _
theorem Dk.pairs (ps : List (Nat × Nat)) : Dk 2 (.list (ps.map Sg.pairD)) := Dk.list fun d hd => by
  obtain ⟨p, _, rfl⟩ := List.mem_map.mp hd
  exact Dk.pairD _
section
variable {K : PySem.W.Frag} {σ : L2.St} {H H' : Hp} {ta tb te : TE} {n : Nat} {w : Wf} {a : Addr} {R : V → Hp → Prop} {P : List V → Hp → Prop}
mutual
theorem dp_mono (e : Ex H H') : ∀ (d : PyData) (v : V), Dp K H v d → Dp K H' v d
  | .none, _, h => by cases h; exact .non
  | .bool b, _, h => by cases h; exact .bl b
  | .int i, _, h => by cases h; exact .int i
  | .str x, _, h => by cases h; exact .str x
  | .list ds, _, h => by
    cases h with
    | lst h1 h2 => exact .lst (ex_l e h1) (dp_monoA e ds _ h2)
  | .tuple ds, _, h => by
    cases h with
    | tup h1 h2 => exact .tup (ex_t e h1) (dp_monoA e ds _ h2)
  | .dict _, _, h => by cases h
theorem dp_monoA (e : Ex H H') : ∀ (ds : List PyData) (vs : List V), DpAll K H vs ds → DpAll K H' vs ds
  | [], _, h => by cases h; exact .nil
  | d :: ds, _, h => by
    cases h with
    | cons h1 h2 => exact .cons (dp_mono e d _ h1) (dp_monoA e ds _ h2)
end
theorem dp_ints : ∀ l : List Int, DpAll K H (l.map V.int) (l.map PyData.int)
  | [] => .nil
  | i :: l => .cons (.int i) (dp_ints l)
theorem dp_map {α : Type} {f : α → V} {g : α → PyData} : ∀ {l : List α}, (∀ x, x ∈ l → Dp K H (f x) (g x)) → DpAll K H (l.map f) (l.map g)
  | [], _ => .nil
  | x :: l, h => .cons (h x List.mem_cons_self) (dp_map fun y hy => h y (List.mem_cons_of_mem _ hy))
theorem dp_row {f : Nat → Int} (h : H a = some (.tup ((List.range n).map fun j => V.int (f j)))) : Dp K H (.ref a) (rowD n f) := .tup (st_of h) (dp_map fun _ _ => .int _)
theorem dp_web (h : WebAt a n w H) : Dp K H (.ref a) (webD n w) := by
  obtain ⟨rs, h1, h2⟩ := h
  exact .tup (st_of h1) (dp_map fun i hi => dp_row (h2 i (List.mem_range.mp hi)))
theorem dp_isW {v : V} (h : IsW n w v H) : Dp K H v (webD n w) := by
  obtain ⟨a, rfl, h⟩ := h
  exact dp_web h
theorem dp_pairs : ∀ {xs : List V} {ps : List (Nat × Nat)}, PairsAt xs ps H → DpAll K H xs (ps.map pairD)
  | _, _, .nil => .nil
  | _, _, .cons ⟨a, e, h⟩ t => by
    refine .cons ?_ (dp_pairs t)
    rw [e]
    exact .tup (st_of h) (.cons (.int _) (.cons (.int _) .nil))
theorem EvN.dp {ds : List PyData} (h : EvN te σ H (fun xs H' => DpAll K H' xs ds)) : EvP te σ H (fun v H' => Dp K H' v (.list ds)) := fun H1 e Q q =>
  h H1 e _ fun p xs H2 hp e2 h2 r => q _ H2 e2 (.lst (sq_of h2) r)
theorem e_eqD {d e : PyData} {k l : Nat} (ha : EvP ta σ H (fun v H' => Dp K H' v d)) (hb : EvP tb σ H (fun v H' => Dp K H' v e)) (hd : Dk k d) (he : Dk l e) (hk : k ≤ 60 ∧ l ≤ 60) : Ev (tOp (rEqD K) ta tb) σ H (.bl (PyData.eqv d e)) := fun H1 e1 Q q =>
  ha H1 e1 _ fun v H2 e2 r => hb H2 (e1.trans e2) _ fun u H3 e3 r3 => ⟨d, e, dp_mono e3 _ _ r, r3, hd.shaped hk.1, he.shaped hk.2, q H3 (e2.trans e3)⟩
theorem e_neD {d e : PyData} {k l : Nat} (ha : EvP ta σ H (fun v H' => Dp K H' v d)) (hb : EvP tb σ H (fun v H' => Dp K H' v e)) (hd : Dk k d) (he : Dk l e) (hk : k ≤ 60 ∧ l ≤ 60) : Ev (tOp (rNeD K) ta tb) σ H (.bl (!PyData.eqv d e)) := fun H1 e1 Q q =>
  ha H1 e1 _ fun v H2 e2 r => hb H2 (e1.trans e2) _ fun u H3 e3 r3 => ⟨d, e, dp_mono e3 _ _ r, r3, hd.shaped hk.1, he.shaped hk.2, q H3 (e2.trans e3)⟩
theorem webD_congr {w w' : Wf} (h : ∀ i j, i < n → j < n → w i j = w' i j) : webD n w = webD n w' := by
  unfold webD rowD
  congr 1
  refine List.map_congr_left fun i hi => ?_
  congr 1
  exact List.map_congr_left fun j hj => by rw [h i j (List.mem_range.mp hi) (List.mem_range.mp hj)]
/-- two webs alike are not unlike -/
theorem e_neW {w w' : Wf} (ha : EvP ta σ H (IsW n w)) (hb : EvP tb σ H (IsW n w')) (h : ∀ i j, i < n → j < n → w i j = w' i j) : Ev (tOp (rNeD K) ta tb) σ H (.bl false) := by
  refine ev_is (e_neD (ha.imp fun v H' _ r => dp_isW r) (hb.imp fun v H' _ r => dp_isW r) (Dk.webD n w) (Dk.webD n w') (by decide)) ?_
  rw [webD_congr h, (Dk.webD n w').refl]; rfl
theorem eqv_nil {α : Type} (l : List α) (g : α → PyData) : PyData.eqv (.list (l.map g)) (.list []) = l.isEmpty := by
  cases l with
  | nil => simp [PyData.eqv, PyData.eqvAll]
  | cons x l => simp [PyData.eqv, PyData.eqvAll]
theorem dp_nil : EvP (tLst tNil) σ H (fun v H' => Dp K H' v (.list ([] : List PyData))) := (EvN.dp (ds := []) ((EvN.of (el_lst ea_nil (by simp))).imp fun xs H' _ r => by subst r; exact .nil))
theorem Dk.nil : Dk 1 (.list []) := Dk.list fun d hd => by cases hd
/-- a value told by a word that only one value fits -/
theorem EvP.ev {u : V} (h : EvP te σ H R) (f : ∀ v H', Ex H H' → R v H' → v = u) : Ev te σ H u := fun H1 e Q q => h H1 e Q fun v H2 e2 r => by
  rw [f v H2 (e.trans e2) r]
  exact q H2 e2
theorem e_lenN {k : Nat} (h : EvN te σ H P) (f : ∀ xs H', P xs H' → xs.length = k) : Ev (tCB (rLenS K) (tCons te tNil)) σ H (.int (k : Int)) := fun H1 e Q q =>
  h H1 e _ fun p xs H2 hp e2 h2 r => ⟨p, xs, rfl, Or.inl (sq_of h2), by rw [f xs H2 r]; exact q H2 e2⟩
theorem e_bits {i : Int} (h : Ev te σ H (.int i)) : Ev (tBits te) σ H (.int (Builtin.Int.intBits i : Nat)) := fun H1 e Q q => h H1 e _ fun H2 e2 => ⟨i, rfl, q H2 e2⟩
/-- min of a new list, of a list -/
theorem e_minL {ns : List Int} {p : Addr} (h : Ev te σ H (.ref p)) (hp : H p = some (.lst (ns.map V.int))) (h0 : 0 < ns.length) : EvP (tCB (rMin K) (tCons te tNil)) σ H (fun v _ => ∃ m, v = .int m ∧ m ∈ ns ∧ ∀ y, y ∈ ns → m ≤ y) := fun H1 e Q q =>
  h H1 e _ fun H2 e2 => ⟨p, ns, rfl, sq_of ((e.trans e2) _ _ hp), h0, fun m hm hl => q _ H2 e2 ⟨m, rfl, hm, hl⟩⟩
theorem e_minN {ns : List Int} (h : EvN te σ H (fun xs _ => xs = ns.map V.int)) (h0 : 0 < ns.length) : EvP (tCB (rMin K) (tCons te tNil)) σ H (fun v _ => ∃ m, v = .int m ∧ m ∈ ns ∧ ∀ y, y ∈ ns → m ≤ y) := fun H1 e Q q =>
  h H1 e _ fun p xs H2 hp e2 h2 r => ⟨p, ns, rfl, sq_of (by rw [h2, r]), h0, fun m hm hl => q _ H2 e2 ⟨m, rfl, hm, hl⟩⟩
end
/-! ### bits of masks -/
theorem bits_nat {m : Nat} (h : 0 < m) : Builtin.Int.intBits (m : Int) = m.log2 + 1 := by
  unfold Builtin.Int.intBits
  rw [if_neg (by simp; omega)]
  rfl
theorem xor_top {t r : Nat} (hr : r < 2 ^ t) : Builtin.bitXor ((2 ^ t + r : Nat) : Int) (2 ^ t) = (r : Int) := by
  have h := xor_high (x := ((2 ^ t + r : Nat) : Int)) t (Int.natCast_nonneg _)
  have e1 : (2 : Int) ^ t = ((2 ^ t : Nat) : Int) := by rw [Int.natCast_pow]; rfl
  have hp : 0 < 2 ^ t := Nat.two_pow_pos t
  rw [e1] at h ⊢
  have e2 : ((2 ^ t + r : Nat) : Int) / ((2 ^ t : Nat) : Int) = 1 := by
    rw [← Int.natCast_ediv, Nat.add_div_left r hp, Nat.div_eq_of_lt hr]; rfl
  have e3 : ((2 ^ t + r : Nat) : Int) % ((2 ^ t : Nat) : Int) = (r : Int) := by
    rw [← Int.natCast_emod, Nat.add_mod_left, Nat.mod_eq_of_lt hr]
  rw [e2, e3, Int.one_mul] at h
  exact h
theorem bit_and1 (r y : Nat) : Builtin.bitAnd ((r : Int) / 2 ^ y) 1 = if r.testBit y then 1 else 0 := by
  have e : (r : Int) / 2 ^ y = ((r / 2 ^ y : Nat) : Int) := by
    rw [Int.natCast_ediv, Int.natCast_pow]; rfl
  rw [e, bitAnd_pp (Int.natCast_nonneg _) (by decide), Int.toNat_natCast]
  show ((r / 2 ^ y &&& 1 : Nat) : Int) = _
  rw [Nat.and_one_is_mod, ← Nat.shiftRight_eq_div_pow]
  have h : (r >>> y) % 2 = (r.testBit y).toNat := by
    rw [Nat.testBit_eq_decide_div_mod_eq, Nat.shiftRight_eq_div_pow]
    have := Nat.mod_two_eq_zero_or_one (r / 2 ^ y)
    rcases this with h | h <;> rw [h] <;> rfl
  rw [h]
  cases r.testBit y <;> rfl
theorem top_split {m : Nat} (h : 0 < m) : ∃ r, r < 2 ^ m.log2 ∧ m = 2 ^ m.log2 + r := by
  have h1 := Nat.log2_self_le (by omega : m ≠ 0)
  have h2 := Nat.lt_log2_self (n := m)
  rw [Nat.pow_succ] at h2
  exact ⟨m - 2 ^ m.log2, by omega, by omega⟩
end Sg
set_option maxHeartbeats 4000000
namespace Sg
open PySem PySem.Spec PyProof.Rows L2 Evl
local macro_rules | `(tactic| walk_at "ev") => `(tactic| first
  | exact ev_c
  | exact ev_var rfl
  | assumption
  | refine e_neg (by walk_at "ev")
  | refine e_add (by walk_at "ev") (by walk_at "ev")
  | refine e_sub (by walk_at "ev") (by walk_at "ev")
  | refine e_web (by assumption) (by walk_at "ev") (by walk_at "ev") (by walk_at "ev") rfl rfl (by omega) (by omega)
  | refine e_lenW (by assumption) (by walk_at "ev")
  | refine e_eq (by walk_at "ev") (by walk_at "ev")
  | refine e_ne (by walk_at "ev") (by walk_at "ev")
  | refine e_lt (by walk_at "ev") (by walk_at "ev")
  | refine e_le (by walk_at "ev") (by walk_at "ev")
  | refine e_gt (by walk_at "ev") (by walk_at "ev")
  | refine e_ge (by walk_at "ev") (by walk_at "ev")
  | refine e_isN (by walk_at "ev")
  | refine e_notN (by walk_at "ev"))
section
variable {P : Program} {w : World} {K : PySem.W.Frag} {mg : Str → Option Value} {base : Heap}
theorem ties_congr {n : Nat} {w w' : Wf} (h : ∀ x y, x < n → y < n → (w x y = 0 ↔ w' x y = 0)) : tiesL n w = tiesL n w' := by
  unfold tiesL lab2
  congr 1
  rw [List.flatMap_def, List.flatMap_def]
  congr 1
  refine List.map_congr_left fun i hi => ?_
  congr 1
  refine List.filter_congr fun j hj => ?_
  have h1 := List.mem_range.mp hi
  have h2 : j < n - (i + 1) := List.mem_range.mp hj
  show (!decide (w i (i + 1 + j) = 0)) = (!decide (w' i (i + 1 + j) = 0))
  have hh := h i (i + 1 + j) h1 (by omega)
  by_cases c : w i (i + 1 + j) = 0
  · rw [decide_eq_true c, decide_eq_true (hh.mp c)]
  · rw [decide_eq_false c, decide_eq_false fun z => c (hh.mpr z)]
def sp_has_same_ties : Sp := fun vs H Q _ => ∃ (a b : Addr) (n : Nat) (wf wg : Wf), vs = [.ref a, .ref b] ∧ WebAt a n wf H ∧ WebAt b n wg H ∧ n ≤ 10 ∧ (∀ x y, x < n → y < n → (wf x y = 0 ↔ wg x y = 0)) ∧ RetV (.bl true) H Q
theorem sc_has_same_ties : FnScope ["web", "other_web"] ["web", "other_web"] (defScope (top 38)) := ⟨rfl, rfl, rfl, by decide +kernel, rfl, by decide +kernel, by decide +kernel⟩
theorem ok_has_same_ties (T : Top K mg) (C_ties_of : Cal P w K mg base 1 "ties_of" ["web"] sp_ties_of) : Cal P w K mg base 2 "has_same_ties" ["web", "other_web"] sp_has_same_ties := by
  obtain ⟨f, fd, F, gF⟩ := T.d_has_same_ties
  obtain ⟨tm, hmost⟩ := T.most
  refine ⟨⟨f, fd, ?_, gF, F.kp, F.bindsN fun _ _ _ _ _ _ us hl => match us, hl with | [_, _], _ => rfl⟩⟩
  refine F.ok sc_has_same_ties (fun vs H Q E h => ?_) (fun cdv A outer s H vs Q E hr h => ?_)
  · repeat (first | (obtain ⟨rfl, _⟩ := h; rfl) | (obtain ⟨_, h⟩ := h))
  unfold sp_has_same_ties at h
  refine (fun (z : ∃ t, PSs (cxOf CX0 P w K mg base ["web", "other_web"] "has_same_ties" (defScope (top 38)) f cdv A outer s H E).nox (defBody (top 38)) t ∧ t { nx := fun _ H' => Q .non H', rt := Q } (L2.start ["web", "other_web"] vs) H) => by
    obtain ⟨t, h1, h2⟩ := z
    exact ⟨t, h1.nox, h2⟩) ?_
  refine ⟨_, (pss_one (ps_ret (pe_and (pe_cmpR op_eq (pe_callB (clen K) (by rfl) T.b_len (by decide +kernel) (pa_cons (pv 0) pa_nil)) (pe_callB (clen K) (by rfl) T.b_len (by decide +kernel) (pa_cons (pv 1) pa_nil)) (nomark _)) (pe_one (pe_cmpR (eqD K hr.units) (C_ties_of.pe hr (by rfl) (pa_cons (pv 0) pa_nil)) (C_ties_of.pe hr (by rfl) (pa_cons (pv 1) pa_nil)) (nomark _)))))), ?_⟩
  obtain ⟨a, b, n, wf, wg, rfl, hw, hg, hn, hz, k⟩ := h
  refine s_ret (ev_andV (a := true) (b := true) (ev_is (e_eq (e_lenW hw (ev_var rfl)) (e_lenW hg (ev_var rfl))) (by rw [decide_eq_true rfl])) (fun _ => ?_)) fun H1 e1 => k H1 e1
  refine ev_is (e_eqD (EvN.dp ((c_callN (P := fun xs H' => PairsAt xs (tiesL n wf) H') (ea_cons (ev_var rfl) ea_nil) fun H1 e1 Q1 q => ⟨a, n, wf, rfl, hw.m e1, hn, q⟩).imp fun _ _ _ r => dp_pairs r)) (EvN.dp ((c_callN (P := fun xs H' => PairsAt xs (tiesL n wg) H') (ea_cons (ev_var rfl) ea_nil) fun H1 e1 Q1 q => ⟨b, n, wg, rfl, hg.m e1, hn, q⟩).imp fun _ _ _ r => dp_pairs r)) (Dk.pairs _) (Dk.pairs _) (by decide)) ?_
  rw [ties_congr hz, (Dk.pairs _).refl]
def prodW (w w' : Wf) : Wf := fun x y => w x y * w' x y
def sp_product_of : Sp := fun vs H Q _ => ∃ (a b : Addr) (n : Nat) (wf wg : Wf), vs = [.ref a, .ref b] ∧ WebAt a n wf H ∧ Sw n wf ∧ WebAt b n wg H ∧ RetP (IsW n (prodW wf wg)) H Q
theorem sc_product_of : FnScope ["web", "other_web", "y", "x"] ["web", "other_web"] (defScope (top 39)) := ⟨rfl, rfl, rfl, by decide +kernel, rfl, by decide +kernel, by decide +kernel⟩
theorem ok_product_of (T : Top K mg)  : Cal P w K mg base 1 "product_of" ["web", "other_web"] sp_product_of := by
  obtain ⟨f, fd, F, gF⟩ := T.d_product_of
  obtain ⟨tm, hmost⟩ := T.most
  refine ⟨⟨f, fd, ?_, gF, F.kp, F.bindsN fun _ _ _ _ _ _ us hl => match us, hl with | [_, _], _ => rfl⟩⟩
  refine F.ok sc_product_of (fun vs H Q E h => ?_) (fun cdv A outer s H vs Q E hr h => ?_)
  · repeat (first | (obtain ⟨rfl, _⟩ := h; rfl) | (obtain ⟨_, h⟩ := h))
  unfold sp_product_of at h
  refine (fun (z : ∃ t, PSs (cxOf CX0 P w K mg base ["web", "other_web", "y", "x"] "product_of" (defScope (top 39)) f cdv A outer s H E).nox (defBody (top 39)) t ∧ t { nx := fun _ H' => Q .non H', rt := Q } (L2.start ["web", "other_web", "y", "x"] vs) H) => by
    obtain ⟨t, h1, h2⟩ := z
    exact ⟨t, h1.nox, h2⟩) ?_
  refine ⟨_, (pss_one (ps_ret (pe_callTy (ctup K) (by rfl) T.b_tuple (by decide +kernel) (pa_cons (pe_lc (own := [("x", 3)]) (g := (gName 3)) (by rfl) sc_product_of.nd (pi_range1 (by rfl) T.b_range (pa_cons (pe_callB (clen K) (by rfl) T.b_len (by decide +kernel) (pa_cons (pv 0) pa_nil)) pa_nil)) (blkOk_by (by kernel_rfl)) (fun _ _ _ _ _ => (pg_name (i := 3) sc_product_of.nd rfl (Or.inr rfl))) (fun _ _ _ _ _ => pts_nil) (fun _ _ _ _ _ => (pe_callTy (ctup K) (by rfl) T.b_tuple (by decide +kernel) (pa_cons (pe_lc (own := [("y", 2)]) (g := (gName 2)) (by rfl) sc_product_of.nd (pi_range1 (by rfl) T.b_range (pa_cons (pe_callB (clen K) (by rfl) T.b_len (by decide +kernel) (pa_cons (pv 0) pa_nil)) pa_nil)) (blkOk_by (by kernel_rfl)) (fun _ _ _ _ _ => (pg_name (i := 2) sc_product_of.nd rfl (Or.inl rfl))) (fun _ _ _ _ _ => pts_nil) (fun _ _ _ _ _ => (pe_op op_mul (pe_ix (ixT K) (pe_ix (ixT K) (pv 0) (pv 3) (fun _ _ => rfl)) (pv 2) (fun _ _ => rfl)) (pe_ix (ixT K) (pe_ix (ixT K) (pv 1) (pv 3) (fun _ _ => rfl)) (pv 2) (fun _ _ => rfl))))) pa_nil)))) pa_nil)))), ?_⟩
  obtain ⟨a, b, n, wf, wg, rfl, hw, sw, hg, k⟩ := h
  have hn := sw.le
  refine s_retP (e_tupN (lcPA (R := fun i v H' => IsT ((List.range n).map fun j => V.int (prodW wf wg i j)) v H') (tn_range1 (ea_cons (e_lenW hw (ev_var rfl)) ea_nil) (by omega)) (by omega) (fun _ _ => rfl) (fun i hi => ?_) (fun _ => IsT.mt)) (fun _ _ _ e r => Paired.mono (fun _ _ r => IsT.mt _ _ _ (ExT.of e) r) r)) fun v H1 e1 ⟨p, xs, ev, hp, r⟩ => k v H1 e1 ⟨p, ev, web_of hp r⟩
  exact EvP.isT (e_tupN (EvN.of (lcA (c := fun j => V.int (prodW wf wg i j)) (tn_range1 (ea_cons (e_lenW hw (ev_var rfl)) ea_nil) (by omega)) (by omega) (fun _ _ => rfl) fun j hj => e_mul (e_web hw (ev_var rfl) (ev_var rfl) (ev_var rfl) rfl rfl hi hj) (e_web hg (ev_var rfl) (ev_var rfl) (ev_var rfl) rfl rfl hi hj) (by
    rcases sw.sgn i j hi hj with z | z | z <;> rw [z] <;> exact .inl ⟨by decide, by decide⟩))) m_eq)
/-- alike: turned at some places -/
def Alike (n : Nat) (w w' : Wf) : Prop := ∃ t : Nat → Int, (∀ x, x < n → Pm (t x)) ∧ ∀ x y, x < n → y < n → w' x y = w x y * t x * t y
theorem Alike.zero {n : Nat} {w w' : Wf} (h : Alike n w w') {x y : Nat} (hx : x < n) (hy : y < n) : w x y = 0 ↔ w' x y = 0 := by
  obtain ⟨t, h1, h2⟩ := h
  rw [h2 x y hx hy]
  constructor
  · intro z; rw [z, Int.zero_mul, Int.zero_mul]
  · intro z
    rcases Int.mul_eq_zero.mp z with z | z
    · rcases Int.mul_eq_zero.mp z with z | z
      · exact z
      · exact absurd z (h1 x hx).ne
    · exact absurd z (h1 y hy).ne
theorem Alike.prod {n : Nat} {w w' : Wf} (W : SgnW n w) (h : Alike n w w') : Bal n (prodW w w') := by
  obtain ⟨t, h1, h2⟩ := h
  refine ⟨t, h1, fun x y hx hy hz => ?_⟩
  unfold prodW at hz ⊢
  have hw : w x y ≠ 0 := fun z => hz (by rw [z, Int.zero_mul])
  rw [h2 x y hx hy]
  have p : Pm (w x y) := by
    rcases W.1 x y hx hy with z | z | z
    · exact .inl z
    · exact .inr z
    · exact absurd z hw
  have e : w x y * (w x y * t x * t y) = (w x y * w x y) * (t x * t y) := by simp only [Int.mul_assoc]
  rw [e, p.sq, Int.one_mul, ← Int.mul_assoc, (h1 x hx).sq, Int.one_mul]
theorem Alike.sw {n : Nat} {w w' : Wf} (W : Sw n w) (h : Alike n w w') : Sw n (prodW w w') := by
  obtain ⟨t, h1, h2⟩ := h
  refine ⟨W.pos, W.le, fun x y hx hy => ?_, fun x y hx hy => ?_, fun x hx => ?_⟩
  · unfold prodW
    rw [h2 x y hx hy]
    rcases W.sgn x y hx hy with z | z | z <;> rcases h1 x hx with a | a <;> rcases h1 y hy with b | b <;> rw [z, a, b] <;> decide
  · unfold prodW
    rw [h2 x y hx hy, h2 y x hy hx, W.sym x y hx hy]
    have e : w y x * t x * t y = w y x * t y * t x := by rw [Int.mul_assoc, Int.mul_comm (t x), ← Int.mul_assoc]
    rw [e]
  · unfold prodW
    rw [W.dia x hx, Int.zero_mul]
def sp_alike_of : Sp := fun vs H Q _ => ∃ (a b : Addr) (n : Nat) (wf wg : Wf), vs = [.ref a, .ref b] ∧ WebAt a n wf H ∧ Sw n wf ∧ WebAt b n wg H ∧ Alike n wf wg ∧ RetV (.bl true) H Q
theorem sc_alike_of : FnScope ["web", "other_web"] ["web", "other_web"] (defScope (top 40)) := ⟨rfl, rfl, rfl, by decide +kernel, rfl, by decide +kernel, by decide +kernel⟩
theorem ok_alike_of (T : Top K mg) (C_some_bad_ring : Cal P w K mg base 4 "some_bad_ring" ["web"] sp_some_bad_ring) (C_has_same_ties : Cal P w K mg base 2 "has_same_ties" ["web", "other_web"] sp_has_same_ties) (C_product_of : Cal P w K mg base 1 "product_of" ["web", "other_web"] sp_product_of) : Cal P w K mg base 5 "alike_of" ["web", "other_web"] sp_alike_of := by
  obtain ⟨f, fd, F, gF⟩ := T.d_alike_of
  obtain ⟨tm, hmost⟩ := T.most
  refine ⟨⟨f, fd, ?_, gF, F.kp, F.bindsN fun _ _ _ _ _ _ us hl => match us, hl with | [_, _], _ => rfl⟩⟩
  refine F.ok sc_alike_of (fun vs H Q E h => ?_) (fun cdv A outer s H vs Q E hr h => ?_)
  · repeat (first | (obtain ⟨rfl, _⟩ := h; rfl) | (obtain ⟨_, h⟩ := h))
  unfold sp_alike_of at h
  refine (fun (z : ∃ t, PSs (cxOf CX0 P w K mg base ["web", "other_web"] "alike_of" (defScope (top 40)) f cdv A outer s H E).nox (defBody (top 40)) t ∧ t { nx := fun _ H' => Q .non H', rt := Q } (L2.start ["web", "other_web"] vs) H) => by
    obtain ⟨t, h1, h2⟩ := z
    exact ⟨t, h1.nox, h2⟩) ?_
  refine ⟨_, (pss_one (ps_ret (pe_and (C_has_same_ties.pe hr (by rfl) (pa_cons (pv 0) (pa_cons (pv 1) pa_nil))) (pe_one (pe_cmpR op_isN (C_some_bad_ring.pe hr (by rfl) (pa_cons (C_product_of.pe hr (by rfl) (pa_cons (pv 0) (pa_cons (pv 1) pa_nil))) pa_nil)) pe_non (nomark _)))))), ?_⟩
  obtain ⟨a, b, n, wf, wg, rfl, hw, sw, hg, al, k⟩ := h
  refine s_ret (ev_andV (a := true) (b := true) (c_callV (ea_cons (ev_var rfl) (ea_cons (ev_var rfl) ea_nil)) fun H1 e1 Q1 q => ⟨a, b, n, wf, wg, rfl, hw.m e1, hg.m e1, sw.le, fun x y hx hy => al.zero hx hy, q⟩) (fun _ => ?_)) fun H1 e1 => k H1 e1
  refine EvP.ev (e_isNP (S := fun v => v = .non ↔ Bal n (prodW wf wg)) (c_call1P (Ra := IsW n (prodW wf wg)) (c_call (ea_cons (ev_var rfl) (ea_cons (ev_var rfl) ea_nil)) fun H1 e1 Q1 q => ⟨a, b, n, wf, wg, rfl, hw.m e1, sw, hg.m e1, q⟩) fun v H1 e1 ⟨c, ev, hc⟩ Q1 q => ⟨c, n, _, by rw [ev], hc, al.sw sw, q⟩)) ?_
  rintro v H1 e1 ⟨u, ev, hu⟩
  rw [ev, decide_eq_true (hu.mpr (al.prod sw.W))]
def sp_are_alike : Sp := fun vs H Q _ => ∃ (a b : Addr) (n : Nat) (wf wg : Wf), vs = [.ref a, .ref b] ∧ WebAt a n wf H ∧ Sw n wf ∧ WebAt b n wg H ∧ Sw n wg ∧ Alike n wf wg ∧ RetV (.bl true) H Q
theorem sc_are_alike : FnScope ["web", "other_web"] ["web", "other_web"] (defScope (top 41)) := ⟨rfl, rfl, rfl, by decide +kernel, rfl, by decide +kernel, by decide +kernel⟩
theorem ok_are_alike (T : Top K mg) (C_check_web : Cal P w K mg base 4 "check_web" ["value"] sp_check_web) (C_alike_of : Cal P w K mg base 5 "alike_of" ["web", "other_web"] sp_alike_of) : Cal P w K mg base 6 "are_alike" ["web", "other_web"] sp_are_alike := by
  obtain ⟨f, fd, F, gF⟩ := T.d_are_alike
  obtain ⟨tm, hmost⟩ := T.most
  refine ⟨⟨f, fd, ?_, gF, F.kp, F.bindsN fun _ _ _ _ _ _ us hl => match us, hl with | [_, _], _ => rfl⟩⟩
  refine F.ok sc_are_alike (fun vs H Q E h => ?_) (fun cdv A outer s H vs Q E hr h => ?_)
  · repeat (first | (obtain ⟨rfl, _⟩ := h; rfl) | (obtain ⟨_, h⟩ := h))
  unfold sp_are_alike at h
  refine (fun (z : ∃ t, PSs (cxOf CX0 P w K mg base ["web", "other_web"] "are_alike" (defScope (top 41)) f cdv A outer s H E).nox (defBody (top 41)) t ∧ t { nx := fun _ H' => Q .non H', rt := Q } (L2.start ["web", "other_web"] vs) H) => by
    obtain ⟨t, h1, h2⟩ := z
    exact ⟨t, h1.nox, h2⟩) ?_
  refine ⟨_, (pss_cons (ps_expr (C_check_web.pe hr (by rfl) (pa_cons (pv 0) pa_nil)))
      (pss_cons (ps_expr (C_check_web.pe hr (by rfl) (pa_cons (pv 1) pa_nil)))
      (pss_one (ps_ret (C_alike_of.pe hr (by rfl) (pa_cons (pv 0) (pa_cons (pv 1) pa_nil))))))), ?_⟩
  obtain ⟨a, b, n, wf, wg, rfl, hw, sw, hg, sg, al, k⟩ := h
  refine q_drop (c_callV (v := .non) (ea_cons (ev_var rfl) ea_nil) fun H1 e1 Q1 q => ⟨a, n, wf, rfl, hw.m e1, sw, q⟩) fun H1 e1 => ?_
  refine q_drop (c_callV (v := .non) (ea_cons (ev_var rfl) ea_nil) fun H2 e2 Q1 q => ⟨b, n, wg, rfl, hg.m (e1.trans e2), sg, q⟩) fun H2 e2 => ?_
  have e12 := e1.trans e2
  exact s_ret (c_callV (ea_cons (ev_var rfl) (ea_cons (ev_var rfl) ea_nil)) fun H3 e3 Q1 q => ⟨a, b, n, wf, wg, rfl, hw.m (e12.trans e3), sw, hg.m (e12.trans e3), al, q⟩) fun H3 e3 => k H3 (e12.trans e3)
end
end Sg
set_option maxHeartbeats 4000000
namespace Sg
open PySem PySem.Spec PyProof.Rows L2 Evl
local macro_rules | `(tactic| walk_at "ev") => `(tactic| first
  | exact ev_c
  | exact ev_var rfl
  | assumption
  | refine e_neg (by walk_at "ev")
  | refine e_add (by walk_at "ev") (by walk_at "ev")
  | refine e_sub (by walk_at "ev") (by walk_at "ev")
  | refine e_web (by assumption) (by walk_at "ev") (by walk_at "ev") (by walk_at "ev") rfl rfl (by omega) (by omega)
  | refine e_lenW (by assumption) (by walk_at "ev")
  | refine e_eq (by walk_at "ev") (by walk_at "ev")
  | refine e_ne (by walk_at "ev") (by walk_at "ev")
  | refine e_lt (by walk_at "ev") (by walk_at "ev")
  | refine e_le (by walk_at "ev") (by walk_at "ev")
  | refine e_gt (by walk_at "ev") (by walk_at "ev")
  | refine e_ge (by walk_at "ev") (by walk_at "ev")
  | refine e_isN (by walk_at "ev")
  | refine e_notN (by walk_at "ev"))
section
variable {P : Program} {w : World} {K : PySem.W.Frag} {mg : Str → Option Value} {base : Heap}
theorem foesN_FE {n : Nat} {w : Wf} (W : SgnW n w) : (foesN n w : Int) = FE n w (fun _ => false) := by
  rw [← upN_FE W]
  have cnt : ∀ (m : Nat) (f : Nat → Bool), (((List.range m).filter f).length : Int) = sumN m fun j => if f j = true then 1 else 0 := by
    intro m f
    induction m with
    | zero => rfl
    | succ m ih =>
      rw [List.range_succ, List.filter_append, List.length_append, Int.natCast_add, ih, sumN_succ]
      congr 1
      rw [List.filter_cons]
      cases f m <;> rfl
  have key : ∀ k, k ≤ n → ((((lab2 k (fun i => n - (i + 1)) (fun i j => !decide (w i (i + 1 + j) = 0))).map fun l => (l.1, l.1 + 1 + l.2)).filter fun l => decide (w l.1 l.2 = -1)).length : Int) = sumN k fun i => sumN (n - (i + 1)) fun j => if w i (i + 1 + j) = -1 then 1 else 0 := by
    intro k
    induction k with
    | zero => intro _; rfl
    | succ k ih =>
      intro hk
      rw [lab2_succ, List.map_append, List.filter_append, List.length_append, Int.natCast_add, ih (by omega), sumN_succ]
      congr 1
      rw [List.map_map, List.filter_map, List.length_map, List.filter_filter, cnt]
      refine sumN_congr fun j _ => ?_
      by_cases c : w k (k + 1 + j) = -1
      · simp [c]
      · simp [c]
  exact key n (Nat.le_refl n)
theorem mask_val {m : Nat} : (List.range m).map (fun (z : Nat) => V.int (z : Int)) = (List.range m).map fun (z : Nat) => V.int (z : Int) := rfl
def sp_foe_table : Sp := fun vs H Q _ => ∃ (a : Addr) (n : Nat) (wf : Wf), vs = [.ref a] ∧ WebAt a n wf H ∧ Sw n wf ∧ ∀ p xs H2, H p = none → Ex H H2 → H2 p = some (.lst xs) → xs = ((List.range (2 ^ n)).map fun m => FE n wf m.testBit).map V.int → Q (.ref p) H2
theorem sc_foe_table : FnScope ["web", "many", "counts", "mask", "top", "rest", "change", "y", "sign"] ["web"] (defScope (top 43)) := ⟨rfl, rfl, rfl, by decide +kernel, rfl, by decide +kernel, by decide +kernel⟩
theorem ok_foe_table (T : Top K mg) (C_foes_of : Cal P w K mg base 2 "foes_of" ["web"] sp_foes_of) : Cal P w K mg base 3 "foe_table" ["web"] sp_foe_table := by
  obtain ⟨f, fd, F, gF⟩ := T.d_foe_table
  obtain ⟨tm, hmost⟩ := T.most
  refine ⟨⟨f, fd, ?_, gF, F.kp, F.bindsN fun _ _ _ _ _ _ us hl => match us, hl with | [_], _ => rfl⟩⟩
  refine F.ok sc_foe_table (fun vs H Q E h => ?_) (fun cdv A outer s H vs Q E hr h => ?_)
  · repeat (first | (obtain ⟨rfl, _⟩ := h; rfl) | (obtain ⟨_, h⟩ := h))
  unfold sp_foe_table at h
  refine (fun (z : ∃ t, PSs (cxOf CX0 P w K mg base ["web", "many", "counts", "mask", "top", "rest", "change", "y", "sign"] "foe_table" (defScope (top 43)) f cdv A outer s H E).nox (defBody (top 43)) t ∧ t { nx := fun _ H' => Q .non H', rt := Q } (L2.start ["web", "many", "counts", "mask", "top", "rest", "change", "y", "sign"] vs) H) => by
    obtain ⟨t, h1, h2⟩ := z
    exact ⟨t, h1.nox, h2⟩) ?_
  refine ⟨_, (pss_cons (ps_set (i := 1) sc_foe_table.nd rfl (Or.inl rfl) (pe_callB (clen K) (by rfl) T.b_len (by decide +kernel) (pa_cons (pv 0) pa_nil)))
      (pss_cons (ps_set (i := 2) sc_foe_table.nd rfl (Or.inl rfl) (pe_lst (pa_cons (pe_callB (clen K) (by rfl) T.b_len (by decide +kernel) (pa_cons (C_foes_of.pe hr (by rfl) (pa_cons (pv 0) pa_nil)) pa_nil)) pa_nil)))
      (pss_cons (ps_for PassesOwn.never rfl (pi_range2 (by rfl) T.b_range (pa_cons pe_int (pa_cons (pe_op op_shl pe_int (pv 1)) pa_nil))) (pg_name (i := 3) sc_foe_table.nd rfl (Or.inl rfl)) (pss_cons (ps_set (i := 4) sc_foe_table.nd rfl (Or.inl rfl) (pe_op op_sub (pe_bits (pv 3)) pe_int))
      (pss_cons (ps_set (i := 5) sc_foe_table.nd rfl (Or.inr rfl) (pe_op op_xor (pv 3) (pe_op op_shl pe_int (pv 4))))
      (pss_cons (ps_set (i := 6) sc_foe_table.nd rfl (Or.inl rfl) (pe_callB (csum K rfl) (by rfl) T.b_sum (by decide +kernel) (pa_cons (pe_lc (own := [("y", 7), ("sign", 8)]) (g := (gTup K 2 (gCons (gName 7) (gCons (gName 8) gNil)))) (by rfl) sc_foe_table.nd (piET K (by rfl) T.b_enumerate (pa_cons (pe_ix (ixT K) (pv 0) (pv 4) (fun _ _ => rfl)) pa_nil)) (blkOk_by (by kernel_rfl)) (fun _ _ _ _ _ => (pgT K rfl (pgs_cons (pg_name (i := 7) sc_foe_table.nd rfl (Or.inl rfl)) (pgs_cons (pg_name (i := 8) sc_foe_table.nd rfl (Or.inl rfl)) pgs_nil)))) (fun _ _ _ _ _ => pts_nil) (fun _ _ _ _ _ => (pe_ifExp (pt_cmpR op_eq (pe_op op_and (pe_op op_shr (pv 5) (pv 7)) pe_int) pe_int (nomark _)) (pv 8) (pe_un un_neg (pv 8))))) pa_nil)))
      (pss_one (ps_expr (bApp K (pv 2) (pa_cons (pe_op op_add (pe_ix (ixL K) (pv 2) (pv 5) (fun _ _ => rfl)) (pv 6)) pa_nil))))))))
      (pss_one (ps_ret (pv 2)))))), ?_⟩
  obtain ⟨a, n, wf, rfl, hw, sw, k⟩ := h
  have hn := sw.le
  have h1024 : 2 ^ n ≤ 1024 := Nat.pow_le_pow_right (by decide) hn
  have hpos : 0 < 2 ^ n := Nat.two_pow_pos n
  refine q_asg (e_lenW hw (ev_var rfl)) fun H1 e1 => ?_
  have hw1 := hw.m e1
  refine q_asgL (el_lst (ea_cons (e_lenN (k := foesN n wf) (P := fun xs _ => xs.length = foesN n wf) (c_callN (ea_cons (ev_var rfl) ea_nil) fun H2 e2 Q1 q => ⟨a, n, wf, rfl, hw1.m e2, hn, q⟩) fun _ _ r => r) ea_nil) (by simp)) fun p H2 hp e2 h2 => ?_
  have e12 := e1.trans e2
  have hp0 := fresh_back e1 hp
  have eshl : (1 : Int) * 2 ^ ((n : Int)).toNat = ((2 ^ n : Nat) : Int) := by
    rw [Int.one_mul, Int.toNat_natCast, Int.natCast_pow]; rfl
  refine q_forR2 (n := ((2 ^ n : Nat) : Int)) (ea_cons ev_c (ea_cons (ev_is (e_shl ev_c (ev_var rfl) ⟨by omega, by omega, by decide⟩) (by rw [eshl])) ea_nil)) ⟨by omega, by omega, by omega, by omega⟩ (fun i σ' H' => ∃ (o3 o4 o5 o6 : Option V), σ' = [some (.ref a), some (.int (n : Int)), some (.ref p), o3, o4, o5, o6, none, none] ∧ Ex H H' ∧ H' p = some (.lst (((List.range (1 + i)).map fun m => FE n wf m.testBit).map V.int))) ?_ ?_ ?_
  · intro H3 e3
    refine ⟨none, none, none, none, rfl, e12.trans e3, ?_⟩
    rw [e3 _ _ h2, foesN_FE sw.W]
    show _ = some (HO.lst [V.int (FE n wf (Nat.testBit 0))])
    congr 3
    exact congrArg V.int (FE_congr (fun _ _ _ _ => rfl) fun x _ => (Nat.zero_testBit x).symm)
  · rintro i σ' H' hi' ⟨o3, o4, o5, o6, rfl, e3, hL⟩
    have hi : 1 + i < 2 ^ n := by omega
    obtain ⟨r, hr, hm⟩ := top_split (m := 1 + i) (by omega)
    have ht : (1 + i).log2 < n := by
      rw [Nat.log2_lt (by omega)]
      exact hi
    have hbits : ((Builtin.Int.intBits (1 + (i : Int)) : Nat) : Int) - 1 = ((1 + i).log2 : Int) := by
      rw [show (1 : Int) + (i : Int) = ((1 + i : Nat) : Int) by omega, bits_nat (by omega)]
      omega
    generalize (1 + i).log2 = t at hr hm ht hbits
    have hxor : Builtin.bitXor (1 + (i : Int)) (1 * 2 ^ ((t : Int)).toNat) = (r : Int) := by
      rw [show (1 : Int) + (i : Int) = ((2 ^ t + r : Nat) : Int) by omega, Int.one_mul, Int.toNat_natCast]
      exact xor_top hr
    have hw4 := hw.m e3
    obtain ⟨rs, g1, g2⟩ := id hw4
    refine q_asg (ev_is (e_sub (e_bits (ev_var rfl)) ev_c) (by rw [hbits])) fun H4 e4 => ?_
    refine q_asg (ev_is (e_xor (ev_var rfl) (e_shl ev_c (ev_var rfl) ⟨by omega, by omega, by decide⟩)) (by rw [hxor])) fun H5 e5 => ?_
    have e35 := (e4.trans e5)
    refine q_asg (e_sumR (n := n) (f := fun y => if r.testBit y then - wf t y else wf t y) (lcA (tn_enumT (e_ixT (ev_var rfl) (e35 _ _ g1) (ev_var rfl) rfl (at_map ht)) (e35 _ _ (g2 t ht))) (by omega) (fun _ _ => rfl) fun y hy => ?_)) fun H6 e6 => ?_
    · refine ev_is (e_ifc (et_test (e_eq (e_band (e_shr (ev_var rfl) (ev_var rfl) (by omega)) ev_c) ev_c)) (ev_var rfl) (e_neg (ev_var rfl))) ?_
      rw [Int.toNat_natCast, bit_and1]
      cases r.testBit y <;> rfl
    · have e36 := e35.trans e6
      have hr1 : r < 1 + i := by have := Nat.two_pow_pos t; omega
      refine s_app (e36 _ _ hL) (ev_var rfl) (e_add (e_ixL (k := r) (ev_var rfl) (e36 _ _ hL) (ev_var rfl) rfl (by rw [List.map_map]; exact at_map hr1)) (ev_var rfl)) (by simp; omega) fun H7 e7 => ⟨_, _, _, _, rfl, Ex.mut (e3.trans (e36.trans e7)) hp0, ?_⟩
      rw [upd_same, ← Nat.add_assoc 1 i 1, List.range_succ (n := 1 + i), List.map_append, List.map_append]
      congr 3
      have hf : FE n wf (1 + i).testBit = FE n wf r.testBit + sumN n fun y => if r.testBit y then - wf t y else wf t y := by
        rw [← FE_turn sw.W ht (Nat.testBit_lt_two_pow hr), hm]
        exact FE_congr (fun _ _ _ _ => rfl) fun x _ => bit_split hr x
      rw [sumN_range]
      exact congrArg (fun z => [V.int z]) hf.symm
  · rintro σ' H' ⟨o3, o4, o5, o6, rfl, e3, hL⟩
    refine s_ret (ev_var rfl) fun H3 e4 => k p _ H3 hp0 (e3.trans e4) (e4 _ _ hL) ?_
    rw [show 1 + (((2 ^ n : Nat) : Int) - 1).toNat = 2 ^ n by omega]
def sp_trouble_of : Sp := fun vs H Q _ => ∃ (a : Addr) (n : Nat) (wf : Wf), vs = [.ref a] ∧ WebAt a n wf H ∧ Sw n wf ∧ RetP (fun v _ => ∃ m, v = .int m ∧ TroubleIs n wf m) H Q
theorem sc_trouble_of : FnScope ["web"] ["web"] (defScope (top 44)) := ⟨rfl, rfl, rfl, by decide +kernel, rfl, by decide +kernel, by decide +kernel⟩
theorem ok_trouble_of (T : Top K mg) (C_foe_table : Cal P w K mg base 3 "foe_table" ["web"] sp_foe_table) : Cal P w K mg base 4 "trouble_of" ["web"] sp_trouble_of := by
  obtain ⟨f, fd, F, gF⟩ := T.d_trouble_of
  obtain ⟨tm, hmost⟩ := T.most
  refine ⟨⟨f, fd, ?_, gF, F.kp, F.bindsN fun _ _ _ _ _ _ us hl => match us, hl with | [_], _ => rfl⟩⟩
  refine F.ok sc_trouble_of (fun vs H Q E h => ?_) (fun cdv A outer s H vs Q E hr h => ?_)
  · repeat (first | (obtain ⟨rfl, _⟩ := h; rfl) | (obtain ⟨_, h⟩ := h))
  unfold sp_trouble_of at h
  refine (fun (z : ∃ t, PSs (cxOf CX0 P w K mg base ["web"] "trouble_of" (defScope (top 44)) f cdv A outer s H E).nox (defBody (top 44)) t ∧ t { nx := fun _ H' => Q .non H', rt := Q } (L2.start ["web"] vs) H) => by
    obtain ⟨t, h1, h2⟩ := z
    exact ⟨t, h1.nox, h2⟩) ?_
  refine ⟨_, (pss_one (ps_ret (pe_callB (cmin K rfl) (by rfl) T.b_min (by decide +kernel) (pa_cons (C_foe_table.pe hr (by rfl) (pa_cons (pv 0) pa_nil)) pa_nil)))), ?_⟩
  obtain ⟨a, n, wf, rfl, hw, sw, k⟩ := h
  refine s_retP (e_minN (ns := (List.range (2 ^ n)).map fun m => FE n wf m.testBit) (c_callN (ea_cons (ev_var rfl) ea_nil) fun H1 e1 Q1 q => ⟨a, n, wf, rfl, hw.m e1, sw, q⟩) (by simp; exact Nat.two_pow_pos n)) fun v H1 e1 ⟨m, ev, h1, h2⟩ => k v H1 e1 ⟨m, ev, ?_⟩
  refine ⟨?_, fun b => ?_⟩
  · obtain ⟨x, _, rfl⟩ := List.mem_map.mp h1
    exact ⟨_, rfl⟩
  · obtain ⟨x, hx, hb⟩ := mask_of n b
    have := h2 (FE n wf x.testBit) (List.mem_map.mpr ⟨x, List.mem_range.mpr hx, rfl⟩)
    rw [FE_congr (w' := wf) (b' := b) (fun _ _ _ _ => rfl) hb] at this
    exact this
def sp_trouble : Sp := fun vs H Q _ => ∃ (a : Addr) (n : Nat) (wf : Wf), vs = [.ref a] ∧ WebAt a n wf H ∧ Sw n wf ∧ RetP (fun v _ => ∃ m, v = .int m ∧ TroubleIs n wf m) H Q
theorem sc_trouble : FnScope ["web"] ["web"] (defScope (top 45)) := ⟨rfl, rfl, rfl, by decide +kernel, rfl, by decide +kernel, by decide +kernel⟩
theorem ok_trouble (T : Top K mg) (C_check_web : Cal P w K mg base 4 "check_web" ["value"] sp_check_web) (C_trouble_of : Cal P w K mg base 4 "trouble_of" ["web"] sp_trouble_of) : Cal P w K mg base 5 "trouble" ["web"] sp_trouble := by
  obtain ⟨f, fd, F, gF⟩ := T.d_trouble
  obtain ⟨tm, hmost⟩ := T.most
  refine ⟨⟨f, fd, ?_, gF, F.kp, F.bindsN fun _ _ _ _ _ _ us hl => match us, hl with | [_], _ => rfl⟩⟩
  refine F.ok sc_trouble (fun vs H Q E h => ?_) (fun cdv A outer s H vs Q E hr h => ?_)
  · repeat (first | (obtain ⟨rfl, _⟩ := h; rfl) | (obtain ⟨_, h⟩ := h))
  unfold sp_trouble at h
  refine (fun (z : ∃ t, PSs (cxOf CX0 P w K mg base ["web"] "trouble" (defScope (top 45)) f cdv A outer s H E).nox (defBody (top 45)) t ∧ t { nx := fun _ H' => Q .non H', rt := Q } (L2.start ["web"] vs) H) => by
    obtain ⟨t, h1, h2⟩ := z
    exact ⟨t, h1.nox, h2⟩) ?_
  refine ⟨_, (pss_cons (ps_expr (C_check_web.pe hr (by rfl) (pa_cons (pv 0) pa_nil)))
      (pss_one (ps_ret (C_trouble_of.pe hr (by rfl) (pa_cons (pv 0) pa_nil))))), ?_⟩
  obtain ⟨a, n, wf, rfl, hw, sw, k⟩ := h
  refine q_drop (c_callV (v := .non) (ea_cons (ev_var rfl) ea_nil) fun H1 e1 Q1 q => ⟨a, n, wf, rfl, hw.m e1, sw, q⟩) fun H1 e1 => ?_
  exact s_retP (c_call (ea_cons (ev_var rfl) ea_nil) fun H2 e2 Q1 q => ⟨a, n, wf, rfl, hw.m (e1.trans e2), sw, q⟩) fun v H2 e2 r => k v H2 (e1.trans e2) r
end
end Sg
set_option maxHeartbeats 4000000
/-! the well: one list that changes -/
namespace Sg
open PySem PySem.Spec PyProof.Rows L2 Evl
def Wl (wl : Addr) (H : Hp) : Prop := ∃ g s : Int, H wl = some (.lst [.int g, .int s])
/-- all but the well stays -/
def Exw (wl : Addr) (H H' : Hp) : Prop := ∀ a o, a ≠ wl → H a = some o → H' a = some o
section
variable {wl : Addr} {H H' H1 H2 : Hp}
theorem Exw.refl : Exw wl H H := fun _ _ _ h => h
theorem Exw.trans (a : Exw wl H H1) (b : Exw wl H1 H2) : Exw wl H H2 := fun x o hx h => b x o hx (a x o hx h)
theorem Exw.of (e : Ex H H') : Exw wl H H' := fun x o _ h => e x o h
theorem Exw.upd {o : HO} : Exw wl H (L2.upd H wl o) := fun x u hx h => by rw [upd_ne hx]; exact h
theorem Exw.mut {p : Addr} {o : HO} (e : Exw wl H H') (h : H p = none) : Exw wl H (L2.upd H' p o) := fun a u hx ha => by
  rw [upd_ne (ne_of_none ha h)]
  exact e a u hx ha
theorem Wl.ext (e : Ex H H') (h : Wl wl H) : Wl wl H' := let ⟨g, s, h⟩ := h; ⟨g, s, e _ _ h⟩
theorem Wl.mut {p : Addr} {o : HO} (h : Wl wl H') (hp : p ≠ wl) : Wl wl (L2.upd H' p o) := let ⟨g, s, h⟩ := h; ⟨g, s, by rw [upd_ne hp.symm]; exact h⟩
theorem Wl.tup (w : Wl wl H) (e : Exw wl H H') : ExT H H' := fun a xs h => by
  obtain ⟨g, s, hw⟩ := w
  refine e a _ (fun z => ?_) h
  rw [z, hw] at h
  cases h
theorem Exw.fresh {p : Addr} (e : Exw wl H H') (w : Wl wl H') (h : H' p = none) : H p = none := by
  cases h1 : H p with
  | none => rfl
  | some o =>
    obtain ⟨g, s, hw⟩ := w
    rw [e p o (fun z => by rw [z, hw] at h; cases h) h1] at h
    cases h
theorem Wl.ne {p : Addr} (w : Wl wl H) (h : H p = none) : p ≠ wl := fun z => by
  obtain ⟨g, s, hw⟩ := w
  rw [z, hw] at h
  cases h
theorem WebAt.w {a : Addr} {n : Nat} {w : Wf} (h : WebAt a n w H) (W : Wl wl H) (e : Exw wl H H') : WebAt a n w H' := h.t (W.tup e)
end
/-- what an expression gives that dips into the well -/
def EvM (wl : Addr) (te : TE) (σ : L2.St) (H : Hp) (R : V → Hp → Prop) : Prop := ∀ H1, Ex H H1 → ∀ Q : VK, (∀ v H2, Exw wl H1 H2 → Wl wl H2 → R v H2 → Q v H2) → te σ H1 Q
section
variable {wl : Addr} {σ : L2.St} {H : Hp} {ta tb te : TE} {R : V → Hp → Prop} {D : Ends} {tu tw tz : TS}
theorem q_asgM {i : Nat} (h : EvM wl te σ H R) (k : ∀ v H1, Exw wl H H1 → Wl wl H1 → R v H1 → tz D (σ.set i (some v)) H1) : tSeq (tAsg te (gName i)) tz D σ H := h H (Ex.refl H) _ fun v H1 e w r => k v H1 e w r
theorem s_retM (h : EvM wl te σ H R) (k : ∀ v H1, Exw wl H H1 → Wl wl H1 → R v H1 → D.rt v H1) : tRet te D σ H := h H (Ex.refl H) _ k
theorem c_callM {sp : Sp} {ta : TA} {vs : List V} {E : XK} (h : EvA ta σ H vs) (hs : ∀ H1, Ex H H1 → ∀ Q : VK, (∀ v H2, Exw wl H1 H2 → Wl wl H2 → R v H2 → Q v H2) → sp vs H1 Q E) : EvM wl (tCall sp [] E ta) σ H R := fun H1 e Q q =>
  h H1 e _ fun H2 e2 => by
    show sp (vs ++ []) H2 Q E
    rw [List.append_nil]
    exact hs H2 (e.trans e2) Q fun v H3 e3 w3 r3 => q v H3 ((Exw.of e2).trans e3) w3 r3
/-- an operation whose one side dips -/
theorem m_opR {r : R2} {S : V → Hp → Prop} {x : V} (ha : Ev ta σ H x) (hb : EvM wl tb σ H R) (hr : ∀ v H1, Exw wl H H1 → Wl wl H1 → R v H1 → ∀ Q : VK, (∀ u H2, Ex H1 H2 → S u H2 → Q u H2) → r x v H1 Q) : EvM wl (tOp r ta tb) σ H S := fun H1 e Q q =>
  ha H1 e _ fun H2 e2 => hb H2 (e.trans e2) _ fun v H3 e3 w3 r3 => hr v H3 ((Exw.of (e.trans e2)).trans e3) w3 r3 Q fun u H4 e4 s4 => q u H4 (((Exw.of e2).trans e3).trans (Exw.of e4)) (w3.ext e4) s4
theorem m_opL {r : R2} {S : V → Hp → Prop} (ha : EvM wl ta σ H R) (hb : ∀ v H1, Exw wl H H1 → Wl wl H1 → R v H1 → ∃ y, Ev tb σ H1 y ∧ ∀ H2, Ex H1 H2 → ∀ Q : VK, (∀ u H3, Ex H2 H3 → S u H3 → Q u H3) → r v y H2 Q) : EvM wl (tOp r ta tb) σ H S := fun H1 e Q q =>
  ha H1 e _ fun v H2 e2 w2 r2 => by
    obtain ⟨y, hy, hr⟩ := hb v H2 ((Exw.of e).trans e2) w2 r2
    exact hy H2 (Ex.refl _) _ fun H3 e3 => hr H3 e3 Q fun u H4 e4 s4 => q u H4 (e2.trans (Exw.of (e3.trans e4))) (w2.ext (e3.trans e4)) s4
theorem EvM.imp {S : V → Hp → Prop} (h : EvM wl te σ H R) (f : ∀ v H', Exw wl H H' → R v H' → S v H') : EvM wl te σ H S := fun H1 e Q q => h H1 e Q fun v H2 e2 w2 r => q v H2 e2 w2 (f v H2 ((Exw.of e).trans e2) r)
theorem EvM.of (W : Wl wl H) (h : EvP te σ H R) : EvM wl te σ H R := fun H1 e Q q => h H1 e Q fun v H2 e2 r => q v H2 (Exw.of e2) ((W.ext e).ext e2) r
/-- if, by a test that dips -/
theorem s_ifM (h : EvM wl te σ H (fun v _ => ∃ b, v = .bl b)) (k : ∀ b H1, Exw wl H H1 → Wl wl H1 → if b = true then tu D σ H1 else tw D σ H1) : tIfS (tTest te) tu tw D σ H := h H (Ex.refl H) _ fun v H1 e w ⟨b, ev⟩ => ⟨b, ev, by
  have := k b H1 e w
  cases b with
  | true =>
    refine iteT ?_
    rw [if_pos rfl] at this
    exact this
  | false =>
    refine iteF ?_
    rw [if_neg Bool.false_ne_true] at this
    exact this⟩
theorem q_ifM (h : EvM wl te σ H (fun v _ => ∃ b, v = .bl b)) (k : ∀ b H1, Exw wl H H1 → Wl wl H1 → if b = true then tu { D with nx := tz D } σ H1 else tw { D with nx := tz D } σ H1) : tSeq (tIfS (tTest te) tu tw) tz D σ H := s_ifM (D := { D with nx := tz D }) h k
/-- a comprehension over what no heap changes, by any word kept -/
theorem lcG {wi : TI} {g : TG} {n : Nat} {τ : Nat → L2.St → L2.St} {tt : TT} {vs : List Nat} {Q : VK} (T : TurnsF wi g σ H n τ) (hw : ∀ i, i < n → wipe (τ i (wipe σ vs)) vs = wipe σ vs) (Inv : Addr → Nat → Hp → Prop)
    (h0 : ∀ D H1, Ex H H1 → H1 D = none → Inv D 0 (L2.upd H1 D (.lst [])))
    (hs : ∀ D i H', i < n → Inv D i H' → tt (τ i (wipe σ vs)) H' fun b H3 => if b = true then te (τ i (wipe σ vs)) H3 fun y H4 => ∃ acc, H4 D = some (.lst acc) ∧ acc.length < sizeLine ∧ Inv D (i + 1) (L2.upd H4 D (.lst (acc ++ [y]))) else Inv D (i + 1) H3)
    (hd : ∀ D H', Inv D n H' → Q (.ref D) H') : tLc wi g tt te vs σ H Q :=
  T H (Ex.refl _) _ fun J H1 e1 hJ D hD => ⟨fun i m H' => m = n - i ∧ i ≤ n ∧ Inv D i H', ⟨n, by simp, Nat.zero_le _, h0 D H1 e1 hD⟩, by
    rintro i m H' ⟨rfl, hi, p⟩
    have qq := hJ H'
    by_cases hlt : i < n
    · exact .inr ⟨qq.1 i hlt, fun H' => Inv D (i + 1) H', fun H2 p' => ⟨n - (i + 1), by omega, rfl, hlt, p'⟩, fun x H4 y => qq.2.2 i hlt x H4 y _ _ ⟨hw i hlt, hs D i H' hlt p⟩⟩
    · have e : i = n := by omega
      subst e
      exact .inl ⟨qq.2.1, hd D H' p⟩⟩
end
end Sg
set_option maxHeartbeats 4000000
namespace Sg
open PySem PySem.Spec PyProof.Rows L2 Evl
local macro_rules | `(tactic| walk_at "ev") => `(tactic| first
  | exact ev_c
  | exact ev_var rfl
  | assumption
  | refine e_neg (by walk_at "ev")
  | refine e_add (by walk_at "ev") (by walk_at "ev")
  | refine e_sub (by walk_at "ev") (by walk_at "ev")
  | refine e_web (by assumption) (by walk_at "ev") (by walk_at "ev") (by walk_at "ev") rfl rfl (by omega) (by omega)
  | refine e_lenW (by assumption) (by walk_at "ev")
  | refine e_eq (by walk_at "ev") (by walk_at "ev")
  | refine e_ne (by walk_at "ev") (by walk_at "ev")
  | refine e_lt (by walk_at "ev") (by walk_at "ev")
  | refine e_le (by walk_at "ev") (by walk_at "ev")
  | refine e_gt (by walk_at "ev") (by walk_at "ev")
  | refine e_ge (by walk_at "ev") (by walk_at "ev")
  | refine e_isN (by walk_at "ev")
  | refine e_notN (by walk_at "ev"))
section
variable {P : Program} {w : World} {K : PySem.W.Frag} {mg : Str → Option Value} {base : Heap}
def sp_law_well (K : PySem.W.Frag) : Sp := fun vs H Q _ => ∃ (a : Addr) (ns : List Int), vs = [.ref a] ∧ SqL K H a (ns.map V.int) ∧ ns.length ≤ 63 ∧ (∀ z ∈ ns, Builtin.Int.intBits z ≤ 1048576) ∧ ∀ p H2, H p = none → Ex H H2 → Wl p H2 → Q (.ref p) H2
theorem abs_bits {z : Int} (h : Builtin.Int.intBits z ≤ 1048576) : Builtin.Int.intBits (if z < 0 then -z else z) ≤ 1048576 := by
  split
  · exact intBits_neg_le h
  · exact h
theorem sc_law_well : FnScope ["_law_script", "_law_great", "_law_stirred", "_law_cell"] ["_law_script"] (defScope (top 47)) := ⟨rfl, rfl, rfl, by decide +kernel, rfl, by decide +kernel, by decide +kernel⟩
theorem ok_law_well (T : Top K mg)  : Cal P w K mg base 1 "_law_well" ["_law_script"] (sp_law_well K) := by
  obtain ⟨f, fd, F, gF⟩ := T.d_law_well
  obtain ⟨tm, hmost⟩ := T.most
  refine ⟨⟨f, fd, ?_, gF, F.kp, F.bindsN fun _ _ _ _ _ _ us hl => match us, hl with | [_], _ => rfl⟩⟩
  refine F.ok sc_law_well (fun vs H Q E h => ?_) (fun cdv A outer s H vs Q E hr h => ?_)
  · repeat (first | (obtain ⟨rfl, _⟩ := h; rfl) | (obtain ⟨_, h⟩ := h))
  unfold sp_law_well at h
  refine (fun (z : ∃ t, PSs (cxOf CX0 P w K mg base ["_law_script", "_law_great", "_law_stirred", "_law_cell"] "_law_well" (defScope (top 47)) f cdv A outer s H E).nox (defBody (top 47)) t ∧ t { nx := fun _ H' => Q .non H', rt := Q } (L2.start ["_law_script", "_law_great", "_law_stirred", "_law_cell"] vs) H) => by
    obtain ⟨t, h1, h2⟩ := z
    exact ⟨t, h1.nox, h2⟩) ?_
  refine ⟨_, (pss_cons (ps_set (i := 1) sc_law_well.nd rfl (Or.inl rfl) pe_int)
      (pss_cons (ps_set (i := 2) sc_law_well.nd rfl (Or.inl rfl) (pe_callB (clen K) (by rfl) T.b_len (by decide +kernel) (pa_cons (pv 0) pa_nil)))
      (pss_cons (ps_for PassesOwn.never rfl (piL K (pv 0)) (pg_name (i := 3) sc_law_well.nd rfl (Or.inl rfl)) (pss_cons (ps_set (i := 1) sc_law_well.nd rfl (Or.inl rfl) (pe_op op_add (pe_op op_mulX (pv 1) (pe_op op_add (pe_callB call_abs (by rfl) T.b_abs (by decide +kernel) (pa_cons (pv 3) pa_nil)) pe_int)) (pe_callB call_abs (by rfl) T.b_abs (by decide +kernel) (pa_cons (pv 3) pa_nil))))
      (pss_one (ps_set (i := 2) sc_law_well.nd rfl (Or.inl rfl) (pe_op op_mod (pe_callTy call_int1 (by rfl) T.b_int (by decide +kernel) (pa_cons (pe_op op_add (pe_op op_add (pe_op op_mul (pv 2) pe_int) (pe_op op_mul (pv 3) pe_int)) pe_int) pa_nil)) (pe_op op_sub (pe_op op_pow pe_int pe_int) pe_int))))))
      (pss_one (ps_ret (pe_lst (pa_cons (pv 1) (pa_cons (pv 2) pa_nil)))))))), ?_⟩
  obtain ⟨a, ns, rfl, ha, hl, hb, k⟩ := h
  refine q_asg ev_c fun H1 e1 => ?_
  refine q_asg (ev_len (ev_var rfl) (ex_l e1 ha)) fun H2 e2 => ?_
  have e12 := e1.trans e2
  refine q_forLn (xs := ns.map V.int) (ev_var rfl) (ex_l e12 ha) (fun i σ' H' => ∃ (g s : Int) (o3 : Option V), σ' = [some (.ref a), some (.int g), some (.int s), o3] ∧ Ex H H' ∧ Builtin.Int.intBits g ≤ i * 1048580) ?_ ?_ ?_ ?_
  · intro H3 e3
    exact ⟨0, _, none, rfl, e12.trans e3, by decide⟩
  · rintro i σ' H' hi ⟨g, s, o3, rfl, e3, _⟩
    exact ex_l e3 ha
  · rintro i x σ' H' hx ⟨g, s, o3, rfl, e3, hg⟩
    rw [List.getElem?_map] at hx
    obtain ⟨z, hz, rfl⟩ := Option.map_eq_some_iff.mp hx
    have hzm : z ∈ ns := List.mem_of_getElem? hz
    have hil : i < ns.length := (List.getElem?_eq_some_iff.mp hz).1
    have h1 := abs_bits (hb z hzm)
    have h2 : Builtin.Int.intBits ((if z < 0 then -z else z) + 2) ≤ 1048577 := by
      have := intBits_add_le h1 (show Builtin.Int.intBits 2 ≤ 2 by decide)
      omega
    refine q_asg (e_add (e_mulX (ev_var rfl) (e_add (e_abs (ev_var rfl)) ev_c) (by unfold CMulX; omega)) (e_abs (ev_var rfl))) fun H4 e4 => ?_
    refine s_asg (e_mod (e_intI (e_add (e_add (e_mul (ev_var rfl) ev_c (.inr ⟨by decide, by decide⟩)) (e_mul (ev_var rfl) ev_c (.inr ⟨by decide, by decide⟩))) ev_c)) (e_sub (e_pow ev_c ev_c ⟨by decide, by decide, by decide⟩) ev_c) (by decide)) fun H5 e5 => ⟨_, _, _, rfl, (e3.trans e4).trans e5, ?_⟩
    have := intBits_add_le (intBits_mul_le hg h2) h1
    omega
  · rintro σ' H' ⟨g, s, o3, rfl, e3, _⟩
    exact s_retL (el_lst (ea_cons (ev_var rfl) (ea_cons (ev_var rfl) ea_nil)) (by simp)) fun p H3 hp e4 h4 => k p H3 (fresh_back e3 hp) (e3.trans e4) ⟨g, s, h4⟩
def sp_law_dip : Sp := fun vs H Q _ => ∃ (wl : Addr) (m : Nat), vs = [.ref wl, .int (m : Int)] ∧ Wl wl H ∧ 0 < m ∧ m ≤ 1000 ∧ ∀ (r : Nat) H2, r < m → Exw wl H H2 → Wl wl H2 → Q (.int (r : Int)) H2
theorem sc_law_dip : FnScope ["_law_well_here", "_law_many", "_law_found"] ["_law_well_here", "_law_many"] (defScope (top 48)) := ⟨rfl, rfl, rfl, by decide +kernel, rfl, by decide +kernel, by decide +kernel⟩
theorem ok_law_dip (T : Top K mg)  : Cal P w K mg base 1 "_law_dip" ["_law_well_here", "_law_many"] sp_law_dip := by
  obtain ⟨f, fd, F, gF⟩ := T.d_law_dip
  obtain ⟨tm, hmost⟩ := T.most
  refine ⟨⟨f, fd, ?_, gF, F.kp, F.bindsN fun _ _ _ _ _ _ us hl => match us, hl with | [_, _], _ => rfl⟩⟩
  refine F.ok sc_law_dip (fun vs H Q E h => ?_) (fun cdv A outer s H vs Q E hr h => ?_)
  · repeat (first | (obtain ⟨rfl, _⟩ := h; rfl) | (obtain ⟨_, h⟩ := h))
  unfold sp_law_dip at h
  refine (fun (z : ∃ t, PSs (cxOf CX0 P w K mg base ["_law_well_here", "_law_many", "_law_found"] "_law_dip" (defScope (top 48)) f cdv A outer s H E).nox (defBody (top 48)) t ∧ t { nx := fun _ H' => Q .non H', rt := Q } (L2.start ["_law_well_here", "_law_many", "_law_found"] vs) H) => by
    obtain ⟨t, h1, h2⟩ := z
    exact ⟨t, h1.nox, h2⟩) ?_
  refine ⟨_, (pss_cons (ps_if (pt_cmpR op_gt (pe_ix (ixL K) (pv 0) pe_int (fun _ _ => rfl)) pe_int (nomark _)) (pss_cons (ps_set (i := 2) sc_law_dip.nd rfl (Or.inl rfl) (pe_op op_mod (pe_callTy call_int1 (by rfl) T.b_int (by decide +kernel) (pa_cons (pe_ix (ixL K) (pv 0) pe_int (fun _ _ => rfl)) pa_nil)) (pv 1)))
      (pss_cons (ps_asg (pe_op op_fdiv (pe_ix (ixL K) (pv 0) pe_int (fun _ _ => rfl)) (pv 1)) (pg_sub (pv 0) pe_int set_list))
      (pss_one (ps_ret (pv 2))))) pss_nil)
      (pss_cons (ps_asg (pe_op op_mod (pe_callTy call_int1 (by rfl) T.b_int (by decide +kernel) (pa_cons (pe_op op_add (pe_op op_mul (pe_ix (ixL K) (pv 0) pe_int (fun _ _ => rfl)) pe_int) pe_int) pa_nil)) (pe_op op_sub (pe_op op_pow pe_int pe_int) pe_int)) (pg_sub (pv 0) pe_int set_list))
      (pss_one (ps_ret (pe_op op_mod (pe_callTy call_int1 (by rfl) T.b_int (by decide +kernel) (pa_cons (pe_op op_fdiv (pe_ix (ixL K) (pv 0) pe_int (fun _ _ => rfl)) pe_int) pa_nil)) (pv 1)))))), ?_⟩
  obtain ⟨wl, m, rfl, ⟨g, s, hW⟩, h0, h1, k⟩ := h
  have res : ∀ (z : Int) H2, Exw wl H H2 → Wl wl H2 → Q (.int (z % (m : Int))) H2 := fun z H2 e2 w2 => by
    have n1 := Int.emod_nonneg z (by omega : (m : Int) ≠ 0)
    have n2 := Int.emod_lt_of_pos z (by omega : 0 < (m : Int))
    have := k (z % (m : Int)).toNat H2 (by omega) e2 w2
    rw [Int.toNat_of_nonneg n1] at this
    exact this
  refine q_when (et_test (e_gt (e_ixL (k := 0) (ev_var rfl) hW ev_c rfl rfl) ev_c)) (fun _ H1 e1 => ?_) fun _ H1 e1 => ?_
  · have hW1 := e1 _ _ hW
    refine q_asg (e_mod (e_intI (e_ixL (k := 0) (ev_var rfl) hW1 ev_c rfl rfl)) (ev_var rfl) (by omega)) fun H2 e2 => ?_
    have hW2 := e2 _ _ hW1
    refine q_setL (j := 0) hW2 (e_div (e_ixL (k := 0) (ev_var rfl) hW2 ev_c rfl rfl) (ev_var rfl) ⟨by omega, by omega⟩) (ev_var rfl) ev_c (by simp) fun H3 e3 => ?_
    exact s_ret (ev_var rfl) fun H4 e4 => res g H4 (((Exw.of (e1.trans (e2.trans e3))).trans Exw.upd).trans (Exw.of e4)) ⟨_, _, e4 _ _ upd_same⟩
  · have hW1 := e1 _ _ hW
    refine q_setL (j := 1) hW1 (e_mod (e_intI (e_add (e_mul (e_ixL (k := 1) (ev_var rfl) hW1 ev_c rfl rfl) ev_c (.inr ⟨by decide, by decide⟩)) ev_c)) (e_sub (e_pow ev_c ev_c ⟨by decide, by decide, by decide⟩) ev_c) (by decide)) (ev_var rfl) ev_c (by simp) fun H3 e3 => ?_
    exact s_ret (e_mod (e_intI (e_div (e_ixL (k := 1) (ev_var rfl) upd_same ev_c rfl rfl) ev_c ⟨by decide, by decide⟩)) (ev_var rfl) (by omega)) fun H4 e4 => res _ H4 (((Exw.of (e1.trans e3)).trans Exw.upd).trans (Exw.of e4)) ⟨_, _, e4 _ _ upd_same⟩
theorem m_dip {wl : Addr} {σ : L2.St} {H : Hp} {E : XK} {ta : TA} {m : Nat} (W : Wl wl H) (h : EvA ta σ H [.ref wl, .int (m : Int)]) (h0 : 0 < m ∧ m ≤ 1000) : EvM wl (tCall sp_law_dip [] E ta) σ H (fun v _ => ∃ r : Nat, v = .int (r : Int) ∧ r < m) :=
  c_callM h fun H1 e1 Q q => ⟨wl, m, rfl, W.ext e1, h0.1, h0.2, fun r H2 hr e2 w2 => q _ H2 e2 w2 ⟨r, rfl, hr⟩⟩
end
end Sg
set_option maxHeartbeats 4000000
namespace Sg
open PySem PySem.Spec PyProof.Rows L2 Evl
local macro_rules | `(tactic| walk_at "ev") => `(tactic| first
  | exact ev_c
  | exact ev_var rfl
  | assumption
  | refine e_neg (by walk_at "ev")
  | refine e_add (by walk_at "ev") (by walk_at "ev")
  | refine e_sub (by walk_at "ev") (by walk_at "ev")
  | refine e_web (by assumption) (by walk_at "ev") (by walk_at "ev") (by walk_at "ev") rfl rfl (by omega) (by omega)
  | refine e_lenW (by assumption) (by walk_at "ev")
  | refine e_eq (by walk_at "ev") (by walk_at "ev")
  | refine e_ne (by walk_at "ev") (by walk_at "ev")
  | refine e_lt (by walk_at "ev") (by walk_at "ev")
  | refine e_le (by walk_at "ev") (by walk_at "ev")
  | refine e_gt (by walk_at "ev") (by walk_at "ev")
  | refine e_ge (by walk_at "ev") (by walk_at "ev")
  | refine e_isN (by walk_at "ev")
  | refine e_notN (by walk_at "ev"))
section
variable {P : Program} {w : World} {K : PySem.W.Frag} {mg : Str → Option Value} {base : Heap}
theorem m_if {wl : Addr} {σ : L2.St} {H : Hp} {te ta tb : TE} {u v : V} (h : EvM wl te σ H (fun v _ => ∃ b, v = .bl b)) (h1 : ∀ H1, Exw wl H H1 → Ev ta σ H1 u) (h2 : ∀ H1, Exw wl H H1 → Ev tb σ H1 v) : EvM wl (tIf (tTest te) ta tb) σ H (fun z _ => z = u ∨ z = v) := fun H1 e Q q =>
  h H1 e _ fun z H2 e2 w2 ⟨b, ez⟩ => ⟨b, ez, by
    have e12 := (Exw.of e).trans e2
    cases b with
    | true =>
      refine iteT ?_
      exact h1 H2 e12 H2 (Ex.refl _) Q fun H3 e3 => q u H3 (e2.trans (Exw.of e3)) (w2.ext e3) (.inl rfl)
    | false =>
      refine iteF ?_
      exact h2 H2 e12 H2 (Ex.refl _) Q fun H3 e3 => q v H3 (e2.trans (Exw.of e3)) (w2.ext e3) (.inr rfl)⟩
/-- a dip is below a number -/
theorem m_dipLt {wl : Addr} {σ : L2.St} {H : Hp} {E : XK} {ta : TA} {tb : TE} {m : Nat} {z : Int} (W : Wl wl H) (h : EvA ta σ H [.ref wl, .int (m : Int)]) (h0 : 0 < m ∧ m ≤ 1000) (hb : ∀ H1, Ev tb σ H1 (.int z)) : EvM wl (tOp (rI0 fun i j => .bl (decide (i < j))) (tCall sp_law_dip [] E ta) tb) σ H (fun v _ => ∃ b, v = .bl b) :=
  m_opL (m_dip W h h0) fun v H1 e1 w1 ⟨r, ev, hr⟩ => ⟨_, hb H1, fun H2 e2 Q q => ⟨_, _, ev, rfl, q _ H2 (Ex.refl _) ⟨_, rfl⟩⟩⟩
theorem m_dipEq {wl : Addr} {σ : L2.St} {H : Hp} {E : XK} {ta : TA} {m : Nat} {z : Int} (W : Wl wl H) (h : EvA ta σ H [.ref wl, .int (m : Int)]) (h0 : 0 < m ∧ m ≤ 1000) : EvM wl (tOp rEq (tCall sp_law_dip [] E ta) (tC (.int z))) σ H (fun v _ => ∃ b, v = .bl b) :=
  m_opL (m_dip W h h0) fun v H1 e1 w1 ⟨r, ev, hr⟩ => ⟨_, ev_c, fun H2 e2 Q q => by subst ev; exact ⟨rfl, q _ H2 (Ex.refl _) ⟨_, rfl⟩⟩⟩
def IsLot (n : Nat) (c : Nat → Bool) : V → Hp → Prop := fun v H => ∃ a, v = .ref a ∧ LotAt a ((List.range n).filter c) H
def sp_law_lot : Sp := fun vs H Q _ => ∃ (wl : Addr) (n : Nat), vs = [.ref wl, .int (n : Int)] ∧ Wl wl H ∧ n ≤ 10 ∧ ∀ v H2 c, Exw wl H H2 → Wl wl H2 → IsLot n c v H2 → Q v H2
theorem filter_set {n : Nat} {c : Nat → Bool} {b : Bool} : (List.range (n + 1)).filter (set1 c n b) = (List.range n).filter c ++ if b = true then [n] else [] := by
  rw [List.range_succ, List.filter_append]
  congr 1
  · exact List.filter_congr fun i hi => set1_ne (by have := List.mem_range.mp hi; omega)
  · rw [List.filter_cons, set1_same]; rfl
theorem sc_law_lot : FnScope ["_law_well_here", "_law_many", "_law_x"] ["_law_well_here", "_law_many"] (defScope (top 50)) := ⟨rfl, rfl, rfl, by decide +kernel, rfl, by decide +kernel, by decide +kernel⟩
theorem ok_law_lot (T : Top K mg) (C_law_dip : Cal P w K mg base 1 "_law_dip" ["_law_well_here", "_law_many"] sp_law_dip) : Cal P w K mg base 2 "_law_lot" ["_law_well_here", "_law_many"] sp_law_lot := by
  obtain ⟨f, fd, F, gF⟩ := T.d_law_lot
  obtain ⟨tm, hmost⟩ := T.most
  refine ⟨⟨f, fd, ?_, gF, F.kp, F.bindsN fun _ _ _ _ _ _ us hl => match us, hl with | [_, _], _ => rfl⟩⟩
  refine F.ok sc_law_lot (fun vs H Q E h => ?_) (fun cdv A outer s H vs Q E hr h => ?_)
  · repeat (first | (obtain ⟨rfl, _⟩ := h; rfl) | (obtain ⟨_, h⟩ := h))
  unfold sp_law_lot at h
  refine (fun (z : ∃ t, PSs (cxOf CX0 P w K mg base ["_law_well_here", "_law_many", "_law_x"] "_law_lot" (defScope (top 50)) f cdv A outer s H E).nox (defBody (top 50)) t ∧ t { nx := fun _ H' => Q .non H', rt := Q } (L2.start ["_law_well_here", "_law_many", "_law_x"] vs) H) => by
    obtain ⟨t, h1, h2⟩ := z
    exact ⟨t, h1.nox, h2⟩) ?_
  refine ⟨_, (pss_one (ps_ret (pe_callTy (ctup K) (by rfl) T.b_tuple (by decide +kernel) (pa_cons (pe_lc (own := [("_law_x", 2)]) (g := (gName 2)) (by rfl) sc_law_lot.nd (pi_range1 (by rfl) T.b_range (pa_cons (pv 1) pa_nil)) (blkOk_by (by kernel_rfl)) (fun _ _ _ _ _ => (pg_name (i := 2) sc_law_lot.nd rfl (Or.inl rfl))) (fun _ _ _ _ _ => (pts_one (pt_cmpR op_eq (C_law_dip.pe hr (by rfl) (pa_cons (pv 0) (pa_cons pe_int pa_nil))) pe_int (nomark _)))) (fun _ _ _ _ _ => (pv 2))) pa_nil)))), ?_⟩
  obtain ⟨wl, n, rfl, W, hn, k⟩ := h
  refine lcG (Q := fun v H1 => rTupOf K [v] H1 Q) (n := n) (tf_range1 (ea_cons (ev_var rfl) ea_nil) (by omega)) (fun _ _ => rfl) (fun D i H' => H D = none ∧ Exw wl H H' ∧ Wl wl H' ∧ ∃ c, H' D = some (.lst (((List.range i).filter c).map fun (z : Nat) => V.int (z : Int)))) ?_ ?_ ?_
  · exact fun D H1 e1 hD => ⟨fresh_back e1 hD, (Exw.of e1).mut (fresh_back e1 hD), (W.ext e1).mut (W.ne (fresh_back e1 hD)), fun _ => false, upd_same⟩
  · rintro D i H' hi ⟨hD, e1, w1, c, hc⟩
    refine (m_dipEq w1 (ea_cons (ev_var rfl) (ea_cons ev_c ea_nil)) ⟨by decide, by decide⟩) H' (Ex.refl _) _ fun v H2 e2 w2 ⟨b, ev⟩ => ⟨b, ev, ?_⟩
    have hDw := W.ne hD
    have hc2 := e2 _ _ hDw hc
    have hcl : (((List.range i).filter c).map fun (z : Nat) => V.int (z : Int)).length ≤ i := by
      rw [List.length_map]
      have := List.length_filter_le c (List.range i)
      rw [List.length_range] at this
      exact this
    cases b with
    | true =>
      refine iteT ?_
      refine ⟨_, rfl, _, hc2, sz_lt (by omega), hD, (e1.trans e2).mut hD, w2.mut hDw, set1 c i true, ?_⟩
      rw [upd_same, filter_set, if_pos rfl, List.map_append]
      rfl
    | false =>
      refine iteF ?_
      refine ⟨hD, e1.trans e2, w2, set1 c i false, ?_⟩
      rw [hc2, filter_set, if_neg Bool.false_ne_true, List.append_nil]
  · rintro D H' ⟨hD, e1, w1, c, hc⟩
    exact ⟨D, _, rfl, .inl ⟨sq_of hc, fun l hl => k _ _ c (e1.trans (Exw.of (Ex.new hl))) (w1.ext (Ex.new hl)) ⟨l, rfl, upd_same⟩⟩⟩
end
end Sg
set_option maxHeartbeats 4000000
namespace Sg
open PySem PySem.Spec PyProof.Rows L2 Evl
local macro_rules | `(tactic| walk_at "ev") => `(tactic| first
  | exact ev_c
  | exact ev_var rfl
  | assumption
  | refine e_neg (by walk_at "ev")
  | refine e_add (by walk_at "ev") (by walk_at "ev")
  | refine e_sub (by walk_at "ev") (by walk_at "ev")
  | refine e_web (by assumption) (by walk_at "ev") (by walk_at "ev") (by walk_at "ev") rfl rfl (by omega) (by omega)
  | refine e_lenW (by assumption) (by walk_at "ev")
  | refine e_eq (by walk_at "ev") (by walk_at "ev")
  | refine e_ne (by walk_at "ev") (by walk_at "ev")
  | refine e_lt (by walk_at "ev") (by walk_at "ev")
  | refine e_le (by walk_at "ev") (by walk_at "ev")
  | refine e_gt (by walk_at "ev") (by walk_at "ev")
  | refine e_ge (by walk_at "ev") (by walk_at "ev")
  | refine e_isN (by walk_at "ev")
  | refine e_notN (by walk_at "ev"))
section
variable {P : Program} {w : World} {K : PySem.W.Frag} {mg : Str → Option Value} {base : Heap}
theorem lc_yes {σ : L2.St} {H : Hp} {A B : Hp → Prop} (h : A H) : tYes σ H fun b H3 => if b = true then A H3 else B H3 := by
  show if true = true then A H else B H
  rw [if_pos rfl]
  exact h
theorem q_raw {te : TE} {i : Nat} {tz : TS} {D : Ends} {σ : L2.St} {H : Hp} (h : te σ H fun v H1 => tz D (σ.set i (some v)) H1) : tSeq (tAsg te (gName i)) tz D σ H := h
/-- lists of a list, each at its own place, all made behind H0; wl is the well -/
structure Mx (wl : Addr) (H0 H' : Hp) (D : Addr) (rs : Nat → Addr) (n : Nat) (M : Wf) : Prop where
  ex : Exw wl H0 H'
  w : Wl wl H'
  d0 : H0 D = none
  r0 : ∀ k, k < n → H0 (rs k) = none
  dw : D ≠ wl
  rw_ : ∀ k, k < n → rs k ≠ wl
  ne : ∀ k, k < n → rs k ≠ D
  inj : ∀ j k, j < n → k < n → rs j = rs k → j = k
  hd : H' D = some (.lst ((List.range n).map fun k => V.ref (rs k)))
  hr : ∀ k, k < n → H' (rs k) = some (.lst ((List.range n).map fun j => V.int (M k j)))
section
variable {wl : Addr} {H0 H' H2 : Hp} {D : Addr} {rs : Nat → Addr} {n : Nat} {M : Wf}
theorem Mx.extw (h : Mx wl H0 H' D rs n M) (e : Exw wl H' H2) (w : Wl wl H2) : Mx wl H0 H2 D rs n M := ⟨h.ex.trans e, w, h.d0, h.r0, h.dw, h.rw_, h.ne, h.inj, e _ _ h.dw h.hd, fun k hk => e _ _ (h.rw_ k hk) (h.hr k hk)⟩
theorem Mx.ext (h : Mx wl H0 H' D rs n M) (e : Ex H' H2) : Mx wl H0 H2 D rs n M := h.extw (Exw.of e) (h.w.ext e)
/-- one place of one line changed -/
def setM (M : Wf) (x y : Nat) (v : Int) : Wf := set1 M x (set1 (M x) y v)
theorem setM_same {x y : Nat} {v : Int} : setM M x y v x y = v := by unfold setM; rw [set1_same, set1_same]
theorem setM_ne {x y i j : Nat} {v : Int} (h : ¬ (i = x ∧ j = y)) : setM M x y v i j = M i j := by
  unfold setM
  by_cases e : i = x
  · subst e
    rw [set1_same, set1_ne fun z => h ⟨rfl, z⟩]
  · rw [set1_ne e]
theorem Mx.set (h : Mx wl H0 H' D rs n M) {x y : Nat} {v : Int} (hx : x < n) (hy : y < n) : Mx wl H0 (upd H' (rs x) (.lst (((List.range n).map fun j => V.int (M x j)).set y (.int v)))) D rs n (setM M x y v) :=
  ⟨h.ex.mut (h.r0 x hx), h.w.mut (h.rw_ x hx), h.d0, h.r0, h.dw, h.rw_, h.ne, h.inj, by rw [upd_ne (h.ne x hx).symm]; exact h.hd, fun k hk => by
    by_cases e : k = x
    · subst e
      rw [upd_same, set_map (c := V.int) hy]
      unfold setM
      rw [set1_same]
    · rw [upd_ne (fun z => e (h.inj k x hk hx z)), h.hr k hk]
      unfold setM
      rw [set1_ne e]⟩
end
/-- lines so far: signs, even, empty on the middle -/
structure Ms (n : Nat) (M : Wf) : Prop where
  sgn : ∀ x y, x < n → y < n → M x y = 1 ∨ M x y = -1 ∨ M x y = 0
  sym : ∀ x y, x < n → y < n → M x y = M y x
  dia : ∀ x, x < n → M x x = 0
theorem Ms.set {n : Nat} {M : Wf} (h : Ms n M) {x y : Nat} {v : Int} (hxy : y < x) (hv : v = 1 ∨ v = -1) : Ms n (setM (setM M x y v) y x v) := by
  have val : ∀ i j, setM (setM M x y v) y x v i j = if (i = y ∧ j = x) ∨ (i = x ∧ j = y) then v else M i j := fun i j => by
    by_cases c : i = y ∧ j = x
    · rw [if_pos (.inl c), c.1, c.2, setM_same]
    · rw [setM_ne c]
      by_cases c2 : i = x ∧ j = y
      · rw [if_pos (.inr c2), c2.1, c2.2, setM_same]
      · rw [setM_ne c2, if_neg (fun z => z.elim c c2)]
  refine ⟨fun i j hi hj => ?_, fun i j hi hj => ?_, fun i hi => ?_⟩
  · rw [val]
    split
    · rcases hv with z | z
      · exact .inl z
      · exact .inr (.inl z)
    · exact h.sgn i j hi hj
  · rw [val, val]
    by_cases c : (i = y ∧ j = x) ∨ (i = x ∧ j = y)
    · rw [if_pos c, if_pos (by rcases c with c | c; exact .inr ⟨c.2, c.1⟩; exact .inl ⟨c.2, c.1⟩)]
    · rw [if_neg c, if_neg (fun z => c (by rcases z with z | z; exact .inr ⟨z.2, z.1⟩; exact .inl ⟨z.2, z.1⟩)), h.sym i j hi hj]
  · rw [val, if_neg (by omega), h.dia i hi]
def sp_law_web : Sp := fun vs H Q _ => ∃ (wl : Addr) (n : Nat), vs = [.ref wl, .int (n : Int)] ∧ Wl wl H ∧ 1 ≤ n ∧ n ≤ 10 ∧ ∀ v H2 wf, Exw wl H H2 → Wl wl H2 → Sw n wf → IsW n wf v H2 → Q v H2
theorem sc_law_web : FnScope ["_law_well_here", "_law_many", "_law_dense", "_law_angry", "_law_lines", "_law_x", "_law_y", "_law_line", "_law_other"] ["_law_well_here", "_law_many"] (defScope (top 49)) := ⟨rfl, rfl, rfl, by decide +kernel, rfl, by decide +kernel, by decide +kernel⟩
theorem ok_law_web (T : Top K mg) (C_law_dip : Cal P w K mg base 1 "_law_dip" ["_law_well_here", "_law_many"] sp_law_dip) : Cal P w K mg base 2 "_law_web" ["_law_well_here", "_law_many"] sp_law_web := by
  obtain ⟨f, fd, F, gF⟩ := T.d_law_web
  obtain ⟨tm, hmost⟩ := T.most
  refine ⟨⟨f, fd, ?_, gF, F.kp, F.bindsN fun _ _ _ _ _ _ us hl => match us, hl with | [_, _], _ => rfl⟩⟩
  refine F.ok sc_law_web (fun vs H Q E h => ?_) (fun cdv A outer s H vs Q E hr h => ?_)
  · repeat (first | (obtain ⟨rfl, _⟩ := h; rfl) | (obtain ⟨_, h⟩ := h))
  unfold sp_law_web at h
  refine (fun (z : ∃ t, PSs (cxOf CX0 P w K mg base ["_law_well_here", "_law_many", "_law_dense", "_law_angry", "_law_lines", "_law_x", "_law_y", "_law_line", "_law_other"] "_law_web" (defScope (top 49)) f cdv A outer s H E).nox (defBody (top 49)) t ∧ t { nx := fun _ H' => Q .non H', rt := Q } (L2.start ["_law_well_here", "_law_many", "_law_dense", "_law_angry", "_law_lines", "_law_x", "_law_y", "_law_line", "_law_other"] vs) H) => by
    obtain ⟨t, h1, h2⟩ := z
    exact ⟨t, h1.nox, h2⟩) ?_
  refine ⟨_, (pss_cons (ps_set (i := 2) sc_law_web.nd rfl (Or.inl rfl) (pe_op op_add pe_int (C_law_dip.pe hr (by rfl) (pa_cons (pv 0) (pa_cons pe_int pa_nil)))))
      (pss_cons (ps_set (i := 3) sc_law_web.nd rfl (Or.inl rfl) (C_law_dip.pe hr (by rfl) (pa_cons (pv 0) (pa_cons pe_int pa_nil))))
      (pss_cons (ps_setLc (i := 4) (own := [("_law_x", 5)]) (g := (gName 5)) (by rfl) sc_law_web.nd rfl rfl (sw_true rfl rfl rfl (by kernel_rfl)) (pi_range1 (by rfl) T.b_range (pa_cons (pv 1) pa_nil)) (blkOk_by (by kernel_rfl)) (fun _ _ _ _ _ => (pg_name (i := 5) sc_law_web.nd rfl (Or.inl rfl))) (fun _ _ _ _ _ => pts_nil) (fun _ _ _ _ _ => (pe_op op_rep (pe_lst (pa_cons pe_int pa_nil)) (pv 1))))
      (pss_cons (ps_for PassesOwn.never rfl (pi_range1 (by rfl) T.b_range (pa_cons (pv 1) pa_nil)) (pg_name (i := 5) sc_law_web.nd rfl (Or.inl rfl)) (pss_one (ps_for PassesOwn.never rfl (pi_range1 (by rfl) T.b_range (pa_cons (pv 5) pa_nil)) (pg_name (i := 6) sc_law_web.nd rfl (Or.inl rfl)) (pss_one (ps_if (pt_cmpR op_lt (C_law_dip.pe hr (by rfl) (pa_cons (pv 0) (pa_cons pe_int pa_nil))) (pv 2) (nomark _)) (pss_cons (ps_set (i := 7) sc_law_web.nd rfl (Or.inl rfl) (pe_ix (ixL K) (pv 4) (pv 5) (fun _ _ => rfl)))
      (pss_cons (ps_asg (pe_ifExp (pt_cmpR op_lt (C_law_dip.pe hr (by rfl) (pa_cons (pv 0) (pa_cons pe_int pa_nil))) (pv 3) (nomark _)) (pe_un un_neg pe_int) pe_int) (pg_sub (pv 7) (pv 6) set_list))
      (pss_cons (ps_set (i := 8) sc_law_web.nd rfl (Or.inl rfl) (pe_ix (ixL K) (pv 4) (pv 6) (fun _ _ => rfl)))
      (pss_one (ps_asg (pe_ix (ixL K) (pv 7) (pv 6) (fun _ _ => rfl)) (pg_sub (pv 8) (pv 5) set_list)))))) pss_nil)))))
      (pss_one (ps_ret (pe_callTy (ctup K) (by rfl) T.b_tuple (by decide +kernel) (pa_cons (pe_lc (own := [("_law_line", 7)]) (g := (gName 7)) (by rfl) sc_law_web.nd (piL K (pv 4)) (blkOk_by (by kernel_rfl)) (fun _ _ _ _ _ => (pg_name (i := 7) sc_law_web.nd rfl (Or.inl rfl))) (fun _ _ _ _ _ => pts_nil) (fun _ _ _ _ _ => (pe_callTy (ctup K) (by rfl) T.b_tuple (by decide +kernel) (pa_cons (pv 7) pa_nil)))) pa_nil)))))))), ?_⟩
  obtain ⟨wl, n, rfl, W, h1n, hn, k⟩ := h
  refine q_asgM (R := fun v _ => ∃ z : Int, v = .int z) (m_opR ev_c (m_dip W (ea_cons (ev_var rfl) (ea_cons ev_c ea_nil)) (m := 6) ⟨by decide, by decide⟩) fun v H1 e1 w1 ⟨r, ev, hr⟩ Q1 q => ⟨_, _, rfl, ev, q _ H1 (Ex.refl _) ⟨_, rfl⟩⟩) ?_
  rintro _ H1 e1 W1 ⟨dense, rfl⟩
  refine q_asgM (m_dip W1 (ea_cons (ev_var rfl) (ea_cons ev_c ea_nil)) (m := 5) ⟨by decide, by decide⟩) ?_
  rintro _ H2 e2 W2 ⟨angry, rfl, _⟩
  have e12 := e1.trans e2
  refine q_raw ?_
  refine lcG (n := n) (tf_range1 (ea_cons (ev_var rfl) ea_nil) (by omega)) (fun _ _ => rfl) (fun D i H' => H2 D = none ∧ Ex H2 H' ∧ ∃ rs : Nat → Addr, H' D = some (.lst ((List.range i).map fun k => V.ref (rs k))) ∧ (∀ k, k < i → H' (rs k) = some (.lst ((List.range n).map fun _ => V.int 0)) ∧ H2 (rs k) = none ∧ rs k ≠ D) ∧ ∀ j k, j < i → k < i → rs j = rs k → j = k) ?_ ?_ ?_
  · exact fun D H3 e3 hD => ⟨fresh_back e3 hD, Ex.mut e3 (fresh_back e3 hD), fun _ => 0, upd_same, fun k hk => by omega, fun j k hj => by omega⟩
  · rintro D i H' hi ⟨hD, e3, rs, hl, hr, hinj⟩
    refine lc_yes ?_
    refine n_rep1 ev_c (ev_var rfl) (by omega) H' (Ex.refl _) _ fun p H4 hp e4 h4 => ⟨_, e4 _ _ hl, sz_lt (by simp; omega), hD, Ex.mut (e3.trans e4) hD, set1 rs i p, ?_, fun k hk => ?_, fun j k hj hk => ?_⟩
    · rw [upd_same, List.range_succ, List.map_append]
      have ea : ((List.range i).map fun k => V.ref (set1 rs i p k)) = (List.range i).map fun k => V.ref (rs k) := List.map_congr_left fun k hk => by rw [set1_ne (by have := List.mem_range.mp hk; omega)]
      rw [ea]
      show _ = some (HO.lst (_ ++ [V.ref (set1 rs i p i)]))
      rw [set1_same]
    · have hpD : p ≠ D := fun z => by rw [z, hl] at hp; cases hp
      by_cases e : k = i
      · rw [e, set1_same, upd_ne hpD]
        exact ⟨h4, fresh_back e3 hp, hpD⟩
      · rw [set1_ne e]
        obtain ⟨a1, a2, a3⟩ := hr k (by omega)
        rw [upd_ne a3]
        exact ⟨e4 _ _ a1, a2, a3⟩
    · have nn : ∀ k, k < i → rs k ≠ p := fun k hk z => by rw [← z, (hr k hk).1] at hp; cases hp
      by_cases ej : j = i
      · by_cases ek : k = i
        · intro _; omega
        · rw [ej, set1_same, set1_ne ek]
          exact fun z => absurd z.symm (nn k (by omega))
      · by_cases ek : k = i
        · rw [ek, set1_same, set1_ne ej]
          exact fun z => absurd z (nn j (by omega))
        · rw [set1_ne ej, set1_ne ek]
          exact hinj j k (by omega) (by omega)
  · rintro D H3 ⟨hD, e3, rs, hl, hr, hinj⟩
    have hM : Mx wl H H3 D rs n (fun _ _ => 0) := ⟨e12.trans (Exw.of e3), W2.ext e3, e12.fresh W2 hD, fun k hk => e12.fresh W2 (hr k hk).2.1, W2.ne hD, fun k hk => W2.ne (hr k hk).2.1, fun k hk => (hr k hk).2.2, hinj, hl, fun k hk => (hr k hk).1⟩
    refine q_forR1 (ea_cons (ev_var rfl) ea_nil) (by omega) (fun i σ' H' => ∃ (M : Wf) (o5 o6 o7 o8 : Option V), σ' = [some (.ref wl), some (.int (n : Int)), some (.int dense), some (.int (angry : Int)), some (.ref D), o5, o6, o7, o8] ∧ Mx wl H H' D rs n M ∧ Ms n M) ?_ ?_ ?_
    · exact fun H4 e4 => ⟨_, none, none, none, none, rfl, hM.ext e4, fun _ _ _ _ => .inr (.inr rfl), fun _ _ _ _ => rfl, fun _ _ => rfl⟩
    · rintro x σ' H' hx' ⟨M, o5, o6, o7, o8, rfl, hM, hS⟩
      have hx : x < n := by omega
      refine s_forR1 (D := { nx := _, rt := Q, bk := _, ct := _ }) (ea_cons (ev_var rfl) ea_nil) (by omega) (fun i σ' H' => ∃ (M : Wf) (o6 o7 o8 : Option V), σ' = [some (.ref wl), some (.int (n : Int)), some (.int dense), some (.int (angry : Int)), some (.ref D), some (.int (x : Int)), o6, o7, o8] ∧ Mx wl H H' D rs n M ∧ Ms n M) ?_ ?_ ?_
      · exact fun H4 e4 => ⟨_, _, _, _, rfl, hM.ext e4, hS⟩
      · rintro y σ' H' hy' ⟨M, o6, o7, o8, rfl, hM, hS⟩
        have hyx : y < x := by omega
        have hy : y < n := by omega
        refine s_ifM (m_dipLt hM.w (ea_cons (ev_var rfl) (ea_cons ev_c ea_nil)) (m := 6) ⟨by decide, by decide⟩ fun H4 => ev_var rfl) fun b H4 e4 w4 => ?_
        have hM4 := hM.extw e4 w4
        cases b with
        | false =>
          refine iteF ?_
          exact ⟨M, _, _, _, rfl, hM4, hS⟩
        | true =>
          refine iteT ?_
          refine q_asg (e_ixLR hM4.hd (ev_var rfl) (ev_var rfl) rfl hx) fun H5 e5 => ?_
          have hM5 := hM4.ext e5
          refine m_if (u := .int (-1)) (v := .int 1) (m_dipLt hM5.w (ea_cons (ev_var rfl) (ea_cons ev_c ea_nil)) (m := 4) ⟨by decide, by decide⟩ fun H4 => ev_var rfl) (fun _ _ => e_neg ev_c) (fun _ _ => ev_c) H5 (Ex.refl _) _ ?_
          intro v H6 e6 w6 hv
          have hM6 := hM5.extw e6 w6
          obtain ⟨z, rfl, hz⟩ : ∃ z : Int, v = .int z ∧ (z = 1 ∨ z = -1) := by
            rcases hv with rfl | rfl
            · exact ⟨_, rfl, .inr rfl⟩
            · exact ⟨_, rfl, .inl rfl⟩
          refine ⟨.ref (rs x), rfl, .int (y : Int), rfl, rs x, _, (y : Int), y, rfl, rfl, hM6.hr x hx, ixN_nat (by simp; exact hy), ?_⟩
          have hM7 := hM6.set (v := z) hx hy
          generalize upd H6 (rs x) (.lst (((List.range n).map fun j => V.int (M x j)).set y (.int z))) = H7 at hM7
          refine q_asg (e_ixLR hM7.hd (ev_var rfl) (ev_var rfl) rfl hy) fun H8 e8 => ?_
          have hM8 := hM7.ext e8
          refine s_setL (j := x) (hM8.hr y hy) (e_ixLR (hM8.hr x hx) (ev_var rfl) (ev_var rfl) rfl hy) (ev_var rfl) (ev_var rfl) (by simp; exact hx) fun H9 e9 => ?_
          rw [setM_same]
          exact ⟨_, _, _, _, rfl, (hM8.ext e9).set hy hx, hS.set hyx hz⟩
      · rintro σ' H' ⟨M, o6, o7, o8, rfl, hM, hS⟩
        exact ⟨M, _, _, _, _, rfl, hM, hS⟩
    · rintro σ' H' ⟨M, o5, o6, o7, o8, rfl, hM, hS⟩
      refine s_retP (e_tupN (lcPA (R := fun i v H' => IsT ((List.range n).map fun j => V.int (M i j)) v H') (tn_list (ev_var rfl) hM.hd) (by omega) (fun _ _ => rfl) (fun i hi => EvP.isT (e_tupL (ev_var rfl) (hM.hr i hi))) (fun _ => IsT.mt)) (fun _ _ _ e r => Paired.mono (fun _ _ r => IsT.mt _ _ _ (ExT.of e) r) r)) fun v H4 e4 ⟨p, xs, ev, hp, r⟩ => k v H4 M (hM.ex.trans (Exw.of e4)) (hM.w.ext e4) ⟨h1n, hn, hS.sgn, hS.sym, hS.dia⟩ ⟨p, ev, web_of hp r⟩
end
end Sg
set_option maxHeartbeats 4000000
/-! what the second search checks -/
namespace Sg
def So (n : Nat) (w : Wf) (s : Nat → Int) (todo : List Nat) (x j : Nat) : Prop := ∀ v y, v < n → y < n → s v ≠ 0 → v ∉ todo → w v y ≠ 0 → (v ≠ x ∨ y < j) → s y = s v * w v y
section
variable {n : Nat} {w : Wf} {s : Nat → Int} {todo : List Nat} {x j y : Nat}
theorem So.start : So n w (fun _ => 0) [] n 0 := fun _ _ _ _ z => absurd rfl z
theorem mul_ne {a b : Int} (ha : a ≠ 0) (hb : b ≠ 0) : a * b ≠ 0 := fun z => (Int.mul_eq_zero.mp z).elim ha hb
theorem So.begin_ (h : So n w s [] n 0) (h0 : s y = 0) : So n w (set1 s y 1) [y] n 0 := fun v z hv hz hs ht hw _ => by
  have e : v ≠ y := fun e => ht (by rw [e]; simp)
  rw [set1_ne e] at hs ⊢
  have := h v z hv hz hs (by simp) hw (.inl (by omega))
  have ez : z ≠ y := fun ez => mul_ne hs hw (by rw [← this, ez]; exact h0)
  rw [set1_ne ez]
  exact this
theorem So.give (h : So n w s todo x j) (hsx : s x ≠ 0) (h0 : s j = 0) {todo' : List Nat} (ht' : ∀ v, v ∈ todo' ↔ v ∈ todo ∨ v = j) : So n w (set1 s j (s x * w x j)) todo' x (j + 1) := fun v z hv hz hs ht hw hc => by
  have e : v ≠ j := fun e => ht ((ht' v).mpr (.inr e))
  have ht2 : v ∉ todo := fun z => ht ((ht' v).mpr (.inl z))
  rw [set1_ne e] at hs ⊢
  by_cases ez : z = j
  · by_cases ev : v = x
    · rw [ez, set1_same, ev]
    · have := h v z hv hz hs ht2 hw (.inl ev)
      exact absurd (by rw [← this, ez]; exact h0) (mul_ne hs hw)
  · rw [set1_ne ez]
    exact h v z hv hz hs ht2 hw (by rcases hc with q | q; exact .inl q; exact .inr (by omega))
theorem So.pass (h : So n w s todo x j) (hp : w x j = 0 ∨ s j = s x * w x j) : So n w s todo x (j + 1) := fun v z hv hz hs ht hw hc => by
  by_cases e : v = x ∧ z = j
  · rcases hp with q | q
    · rw [e.1, e.2] at hw; exact absurd q hw
    · rw [e.1, e.2]; exact q
  · exact h v z hv hz hs ht hw (by rcases hc with q | q; exact .inl q; by_cases ev : v = x; exact .inr (by have : z ≠ j := fun ez => e ⟨ev, ez⟩; omega); exact .inl ev)
theorem So.take (h : So n w s todo n 0) {todo' : List Nat} (ht : ∀ v, v ∈ todo → v ∈ todo' ∨ v = x) : So n w s todo' x 0 := fun v z hv hz hs hn hw hc => by
  rcases hc with q | q
  · exact h v z hv hz hs (fun z => (ht v z).elim hn q) hw (.inl (by omega))
  · omega
theorem So.done (h : So n w s todo x n) : So n w s todo n 0 := fun v z hv hz hs ht hw _ => h v z hv hz hs ht hw (.inr hz)
theorem So.val (h : So n w s [] n 0) (S : Sv n w s [] n 0) (hall : ∀ v, v < n → s v ≠ 0) : Val n w s :=
  ⟨fun v hv => (S.sgn v hv).resolve_left (hall v hv), fun x y hx hy hw => h x y hx hy (hall x hx) (by simp) hw (.inl (by omega))⟩
end
end Sg
set_option maxHeartbeats 4000000
namespace Sg
open PySem PySem.Spec PyProof.Rows L2 Evl
local macro_rules | `(tactic| walk_at "ev") => `(tactic| first
  | exact ev_c
  | exact ev_var rfl
  | assumption
  | refine e_neg (by walk_at "ev")
  | refine e_add (by walk_at "ev") (by walk_at "ev")
  | refine e_sub (by walk_at "ev") (by walk_at "ev")
  | refine e_web (by assumption) (by walk_at "ev") (by walk_at "ev") (by walk_at "ev") rfl rfl (by omega) (by omega)
  | refine e_lenW (by assumption) (by walk_at "ev")
  | refine e_eq (by walk_at "ev") (by walk_at "ev")
  | refine e_ne (by walk_at "ev") (by walk_at "ev")
  | refine e_lt (by walk_at "ev") (by walk_at "ev")
  | refine e_le (by walk_at "ev") (by walk_at "ev")
  | refine e_gt (by walk_at "ev") (by walk_at "ev")
  | refine e_ge (by walk_at "ev") (by walk_at "ev")
  | refine e_isN (by walk_at "ev")
  | refine e_notN (by walk_at "ev"))
section
variable {K : PySem.W.Frag} {σ : L2.St} {H : Hp} {ta tb td ty tv te : TE} {a l : Addr} {kvs : List (Key × V)} {i : Int} {v : V} {D : Ends} {R : V → Hp → Prop} {tz : TS} {xs : List V}
theorem s_appP (hl : H l = some (.lst xs)) (ha : Ev ta σ H (.ref l)) (h : EvP te σ H R) (hz : xs.length < 100000) (k : ∀ v H1, Ex H H1 → R v H1 → D.nx σ (upd H1 l (.lst (xs ++ [v])))) :
    tDrop (tBM K "list" rAppend ta (tCons te tNil)) D σ H := ha H (Ex.refl H) _ fun H1 e1 =>
  ⟨Or.inl ⟨rfl, xs, sq_of (e1 l _ hl)⟩, h H1 e1 _ fun v H2 e2 r => ⟨l, xs, v, rfl, rfl, e2 l _ (e1 l _ hl), sz_lt hz, k v H2 (e1.trans e2) r⟩⟩
theorem e_dnotin (hy : Ev ty σ H (.int i)) (ha : Ev td σ H (.ref a)) (hd : H a = some (.dK kvs)) : Ev (tDNotIn ty td) σ H (.bl (!(valV kvs (.inl i)).isSome)) := fun H1 e Q q =>
  hy H1 e _ fun H2 e2 => ha H2 (e.trans e2) _ fun H3 e3 => ⟨a, _, rfl, DGet.k (k := .inl i) (((e.trans e2).trans e3) _ _ hd), q H3 (e2.trans e3)⟩
theorem e_dget (ha : Ev td σ H (.ref a)) (hy : Ev ty σ H (.int i)) (hd : H a = some (.dK kvs)) (hv : valV kvs (.inl i) = some v) : Ev (tDGet td ty) σ H v := fun H1 e Q q =>
  ha H1 e _ fun H2 e2 => hy H2 (e.trans e2) _ fun H3 e3 => ⟨a, v, rfl, by rw [← hv]; exact DGet.k (k := .inl i) (((e.trans e2).trans e3) _ _ hd), q H3 (e2.trans e3)⟩
theorem s_dput (hd : H a = some (.dK kvs)) (hl : kvs.length < 100000) (hv : Ev tv σ H v) (ha : Ev td σ H (.ref a)) (hy : Ev ty σ H (.int i)) (k : ∀ H1, Ex H H1 → D.nx σ (upd H1 a (.dK (putK kvs (.inl i) v)))) : sDPut td ty tv D σ H :=
  hv H (Ex.refl H) _ fun H1 e1 => ha H1 e1 _ fun H2 e2 => hy H2 (e1.trans e2) _ fun H3 e3 => ⟨a, _, rfl, DPut.k (k := .inl i) (((e1.trans e2).trans e3) _ _ hd) (sz_lt hl), k H3 ((e1.trans e2).trans e3)⟩
theorem q_dput (hd : H a = some (.dK kvs)) (hl : kvs.length < 100000) (hv : Ev tv σ H v) (ha : Ev td σ H (.ref a)) (hy : Ev ty σ H (.int i)) (k : ∀ H1, Ex H H1 → tz D σ (upd H1 a (.dK (putK kvs (.inl i) v)))) : tSeq (sDPut td ty tv) tz D σ H := s_dput (D := { D with nx := tz D }) hd hl hv ha hy k
theorem q_dnew {j : Nat} (k : ∀ p H1, H p = none → Ex H H1 → H1 p = some (.dK []) → tz D (σ.set j (some (.ref p))) H1) : tSeq (tAsg tDNewK (gName j)) tz D σ H := fun p hp => k p _ hp (Ex.new hp) upd_same
end
/-- a branch, then the rest, which is shown once -/
theorem q_when2 {σ : L2.St} {H : Hp} {t : TT} {tu tz : TS} {D : Ends} {b : Bool} {M : L2.St → Hp → Prop} (h : EvT t σ H b) (rest : ∀ σ' H', M σ' H' → tz D σ' H') (h1 : b = true → ∀ H1, Ex H H1 → (∀ σ' H', M σ' H' → tz D σ' H') → tu { D with nx := tz D } σ H1) (h2 : b = false → ∀ H1, Ex H H1 → M σ H1) : tSeq (tIfS t tu tNext) tz D σ H :=
  q_when h (fun hb H1 e1 => h1 hb H1 e1 rest) fun hb H1 e1 => rest _ _ (h2 hb H1 e1)
/-- a dict of the sides that are told -/
def DictS (H : Hp) (pd : Addr) (n : Nat) (s : Nat → Int) : Prop := ∃ kvs, H pd = some (.dK kvs) ∧ kvs.length + Un n s ≤ n ∧ ∀ i, i < n → valV kvs (.inl (i : Int)) = if s i = 0 then none else some (.int (s i))
theorem DictS.ext {H H' : Hp} {pd : Addr} {n : Nat} {s : Nat → Int} (e : Ex H H') (h : DictS H pd n s) : DictS H' pd n s := let ⟨k, a, b⟩ := h; ⟨k, e _ _ a, b⟩
theorem DictS.other {H : Hp} {pd q : Addr} {o : HO} {n : Nat} {s : Nat → Int} (h : DictS H pd n s) (hq : q ≠ pd) : DictS (upd H q o) pd n s := let ⟨k, a, b⟩ := h; ⟨k, by rw [upd_ne hq.symm]; exact a, b⟩
theorem dict_put {H : Hp} {pd : Addr} {n y : Nat} {s : Nat → Int} {v : Int} {kvs : List (Key × V)} (hl : kvs.length + Un n s ≤ n) (hv : ∀ i, i < n → valV kvs (.inl (i : Int)) = if s i = 0 then none else some (.int (s i))) (hy : y < n) (h0 : s y = 0) (hv0 : v ≠ 0) :
    DictS (upd H pd (.dK (putK kvs (.inl (y : Int)) (.int v)))) pd n (set1 s y v) := by
  refine ⟨_, upd_same, ?_, fun i hi => ?_⟩
  · have hn : valV kvs (.inl (y : Int)) = none := by rw [hv y hy, if_pos h0]
    rw [putK_new _ hn, List.length_append]
    have := Un_set (n := n) hy h0 hv0
    simp
    omega
  · rw [valV_put]
    by_cases e : i = y
    · subst e
      rw [if_pos rfl, set1_same, if_neg hv0]
    · rw [if_neg (fun z => e (by have := Sum.inl.inj z; omega)), set1_ne e]
      exact hv i hi
section
variable {P : Program} {w : World} {K : PySem.W.Frag} {mg : Str → Option Value} {base : Heap}
def turnW (w : Wf) (l : List Nat) : Wf := fun x y => if decide (x ∈ l) = decide (y ∈ l) then w x y else - w x y
def sp_law_turned : Sp := fun vs H Q _ => ∃ (a b : Addr) (n : Nat) (wf : Wf) (l : List Nat), vs = [.ref a, .ref b] ∧ WebAt a n wf H ∧ n ≤ 10 ∧ LotAt b l H ∧ RetP (IsW n (turnW wf l)) H Q
theorem sc_law_turned : FnScope ["_law_web_here", "_law_lot_here", "_law_lines", "_law_x", "_law_y"] ["_law_web_here", "_law_lot_here"] (defScope (top 51)) := ⟨rfl, rfl, rfl, by decide +kernel, rfl, by decide +kernel, by decide +kernel⟩
theorem ok_law_turned (T : Top K mg)  : Cal P w K mg base 1 "_law_turned" ["_law_web_here", "_law_lot_here"] sp_law_turned := by
  obtain ⟨f, fd, F, gF⟩ := T.d_law_turned
  obtain ⟨tm, hmost⟩ := T.most
  refine ⟨⟨f, fd, ?_, gF, F.kp, F.bindsN fun _ _ _ _ _ _ us hl => match us, hl with | [_, _], _ => rfl⟩⟩
  refine F.ok sc_law_turned (fun vs H Q E h => ?_) (fun cdv A outer s H vs Q E hr h => ?_)
  · repeat (first | (obtain ⟨rfl, _⟩ := h; rfl) | (obtain ⟨_, h⟩ := h))
  unfold sp_law_turned at h
  refine (fun (z : ∃ t, PSs (cxOf CX0 P w K mg base ["_law_web_here", "_law_lot_here", "_law_lines", "_law_x", "_law_y"] "_law_turned" (defScope (top 51)) f cdv A outer s H E).nox (defBody (top 51)) t ∧ t { nx := fun _ H' => Q .non H', rt := Q } (L2.start ["_law_web_here", "_law_lot_here", "_law_lines", "_law_x", "_law_y"] vs) H) => by
    obtain ⟨t, h1, h2⟩ := z
    exact ⟨t, h1.nox, h2⟩) ?_
  refine ⟨_, (pss_cons (ps_set (i := 2) sc_law_turned.nd rfl (Or.inl rfl) (pe_lst pa_nil))
      (pss_cons (ps_for PassesOwn.never rfl (pi_range1 (by rfl) T.b_range (pa_cons (pe_callB (clen K) (by rfl) T.b_len (by decide +kernel) (pa_cons (pv 0) pa_nil)) pa_nil)) (pg_name (i := 3) sc_law_turned.nd rfl (Or.inr rfl)) (pss_one (ps_expr (bApp K (pv 2) (pa_cons (pe_callTy (ctup K) (by rfl) T.b_tuple (by decide +kernel) (pa_cons (pe_lc (own := [("_law_y", 4)]) (g := (gName 4)) (by rfl) sc_law_turned.nd (pi_range1 (by rfl) T.b_range (pa_cons (pe_callB (clen K) (by rfl) T.b_len (by decide +kernel) (pa_cons (pv 0) pa_nil)) pa_nil)) (blkOk_by (by kernel_rfl)) (fun _ _ _ _ _ => (pg_name (i := 4) sc_law_turned.nd rfl (Or.inl rfl))) (fun _ _ _ _ _ => pts_nil) (fun _ _ _ _ _ => (pe_ifExp (pt_cmpR op_eq (pe_cmpR (inSq K) (pv 3) (pv 1) (by rfl)) (pe_cmpR (inSq K) (pv 4) (pv 1) (by rfl)) (nomark _)) (pe_ix (ixT K) (pe_ix (ixT K) (pv 0) (pv 3) (fun _ _ => rfl)) (pv 4) (fun _ _ => rfl)) (pe_un un_neg (pe_ix (ixT K) (pe_ix (ixT K) (pv 0) (pv 3) (fun _ _ => rfl)) (pv 4) (fun _ _ => rfl)))))) pa_nil)) pa_nil)))))
      (pss_one (ps_ret (pe_callTy (ctup K) (by rfl) T.b_tuple (by decide +kernel) (pa_cons (pv 2) pa_nil)))))), ?_⟩
  obtain ⟨a, b, n, wf, l, rfl, hw, hn, hb, k⟩ := h
  refine q_asgL (el_lst ea_nil (by simp)) fun D H1 hD e1 h1 => ?_
  refine q_forR1 (ea_cons (e_lenW (hw.m e1) (ev_var rfl)) ea_nil) (by omega) (fun i σ' H' => ∃ (o3 : Option V), σ' = [some (.ref a), some (.ref b), some (.ref D), o3, none] ∧ Ex H H' ∧ ∃ xs, H' D = some (.lst xs) ∧ Paired (fun v k => IsT ((List.range n).map fun j => V.int (turnW wf l k j)) v H') xs (List.range i)) ?_ ?_ ?_
  · exact fun H2 e2 => ⟨none, rfl, e1.trans e2, [], e2 _ _ h1, .nil⟩
  · rintro i σ' H' hi' ⟨o3, rfl, e2, xs, hx, hP⟩
    have hi : i < n := by omega
    have hw2 := hw.m e2
    have hb2 := e2 _ _ hb
    have hl := hP.length
    rw [List.length_range] at hl
    refine s_appP hx (ev_var rfl) (EvP.isT (e_tupN (EvN.of (lcA (c := fun j => V.int (turnW wf l i j)) (tn_range1 (ea_cons (e_lenW hw2 (ev_var rfl)) ea_nil) (by omega)) (by omega) (fun _ _ => rfl) fun j hj => ?_)) m_eq)) (by omega) fun v H3 e3 r => ⟨_, rfl, Ex.mut (e2.trans e3) hD, _, upd_same, ?_⟩
    · refine ev_is (e_ifc (et_test (e_eqB (e_inN (ev_var rfl) (ev_var rfl) hb2) (e_inN (ev_var rfl) (ev_var rfl) hb2))) (e_web hw2 (ev_var rfl) (ev_var rfl) (ev_var rfl) rfl rfl hi hj) (e_neg (e_web hw2 (ev_var rfl) (ev_var rfl) (ev_var rfl) rfl rfl hi hj))) ?_
      unfold turnW
      by_cases c : decide (i ∈ l) = decide (j ∈ l)
      · rw [if_pos c, if_pos (decide_eq_true c)]
      · rw [if_neg c, if_neg (by rw [decide_eq_false c]; exact Bool.false_ne_true)]
    · have m1 : ExT H' (upd H3 D (.lst (xs ++ [v]))) := (ExT.of e3).trans (ExT.lst (e3 _ _ hx))
      rw [List.range_succ]
      exact Paired.snoc (Paired.mono (fun _ _ r => IsT.mt _ _ _ m1 r) hP) (IsT.mt _ _ _ (ExT.lst (e3 _ _ hx)) r)
  · rintro σ' H' ⟨o3, rfl, e2, xs, hx, hP⟩
    rw [Int.toNat_natCast] at hP
    exact s_retP (e_tupL (ev_var rfl) hx) fun v H3 e3 ⟨p, ys, ev, hp, ey⟩ => k v H3 (e2.trans e3) ⟨p, ev, web_of hp (by rw [ey]; exact Paired.mono (fun _ _ r => IsT.mt _ _ _ (ExT.of e3) r) hP)⟩
def sp_law_sides : Sp := fun vs H Q _ => ∃ (a : Addr) (n : Nat) (wf : Wf), vs = [.ref a] ∧ WebAt a n wf H ∧ Sw n wf ∧ RetP (fun v H' => (v = .non ∧ ¬ Bal n wf) ∨ ∃ p s, v = .ref p ∧ Val n wf s ∧ H' p = some (.lst ((List.range n).map fun i => V.int (s i)))) H Q
theorem sc_law_sides : FnScope ["_law_web_here", "_law_sides_here", "_law_start", "_law_here", "_law_k", "_law_y", "_law_sign", "_law_x"] ["_law_web_here"] (defScope (top 52)) := ⟨rfl, rfl, rfl, by decide +kernel, rfl, by decide +kernel, by decide +kernel⟩
theorem ok_law_sides (T : Top K mg)  : Cal P w K mg base 1 "_law_sides" ["_law_web_here"] sp_law_sides := by
  obtain ⟨f, fd, F, gF⟩ := T.d_law_sides
  obtain ⟨tm, hmost⟩ := T.most
  refine ⟨⟨f, fd, ?_, gF, F.kp, F.bindsN fun _ _ _ _ _ _ us hl => match us, hl with | [_], _ => rfl⟩⟩
  refine F.ok sc_law_sides (fun vs H Q E h => ?_) (fun cdv A outer s H vs Q E hr h => ?_)
  · repeat (first | (obtain ⟨rfl, _⟩ := h; rfl) | (obtain ⟨_, h⟩ := h))
  unfold sp_law_sides at h
  refine (fun (z : ∃ t, PSs (cxOf CX0 P w K mg base ["_law_web_here", "_law_sides_here", "_law_start", "_law_here", "_law_k", "_law_y", "_law_sign", "_law_x"] "_law_sides" (defScope (top 52)) f cdv A outer s H E).nox (defBody (top 52)) t ∧ t { nx := fun _ H' => Q .non H', rt := Q } (L2.start ["_law_web_here", "_law_sides_here", "_law_start", "_law_here", "_law_k", "_law_y", "_law_sign", "_law_x"] vs) H) => by
    obtain ⟨t, h1, h2⟩ := z
    exact ⟨t, h1.nox, h2⟩) ?_
  refine ⟨_, (pss_cons (ps_set (i := 1) sc_law_sides.nd rfl (Or.inr rfl) pe_dnewK)
      (pss_cons (ps_for PassesOwn.never rfl (pi_range1 (by rfl) T.b_range (pa_cons (pe_callB (clen K) (by rfl) T.b_len (by decide +kernel) (pa_cons (pv 0) pa_nil)) pa_nil)) (pg_name (i := 2) sc_law_sides.nd rfl (Or.inl rfl)) (pss_cons (ps_set (i := 3) sc_law_sides.nd rfl (Or.inl rfl) (pe_lst pa_nil))
      (pss_cons (ps_if (pt_cmp (pc_dnotin (hu_of hr) (pv 2) (pv 1))) (pss_cons (ps_dput (hu_of hr) (pv 1) (pv 2) pe_int rfl)
      (pss_one (ps_expr (bApp K (pv 3) (pa_cons (pv 2) pa_nil))))) pss_nil)
      (pss_one (ps_for PassesOwn.never rfl (pi_range1 (by rfl) T.b_range (pa_cons (pe_callB (clen K) (by rfl) T.b_len (by decide +kernel) (pa_cons (pv 0) pa_nil)) pa_nil)) (pg_name (i := 4) sc_law_sides.nd rfl (Or.inl rfl)) (pss_one (ps_if (pt_cmpR op_lt (pv 4) (pe_callB (clen K) (by rfl) T.b_len (by decide +kernel) (pa_cons (pv 3) pa_nil)) (nomark _)) (pss_one (ps_for PassesOwn.never rfl (pi_range1 (by rfl) T.b_range (pa_cons (pe_callB (clen K) (by rfl) T.b_len (by decide +kernel) (pa_cons (pv 0) pa_nil)) pa_nil)) (pg_name (i := 5) sc_law_sides.nd rfl (Or.inl rfl)) (pss_cons (ps_set (i := 6) sc_law_sides.nd rfl (Or.inl rfl) (pe_ix (ixT K) (pe_ix (ixT K) (pv 0) (pe_ix (ixL K) (pv 3) (pv 4) (fun _ _ => rfl)) (fun _ _ => rfl)) (pv 5) (fun _ _ => rfl)))
      (pss_one (ps_if (PW.pt (pw_and (pt_cmpR op_ne (pv 6) pe_int (nomark _)) (pw_and1 (pt_cmp (pc_dnotin (hu_of hr) (pv 5) (pv 1)))))) (pss_cons (ps_dput (hu_of hr) (pv 1) (pv 5) (pe_op op_mul (pe_dget (hu_of hr) (pv 1) (pe_ix (ixL K) (pv 3) (pv 4) (fun _ _ => rfl)) (fun _ _ => rfl)) (pv 6)) rfl)
      (pss_one (ps_expr (bApp K (pv 3) (pa_cons (pv 5) pa_nil))))) (pss_one (ps_if (PW.pt (pw_and (pt_cmpR op_ne (pv 6) pe_int (nomark _)) (pw_and1 (pt_cmpR op_ne (pe_dget (hu_of hr) (pv 1) (pv 5) (fun _ _ => rfl)) (pe_op op_mul (pe_dget (hu_of hr) (pv 1) (pe_ix (ixL K) (pv 3) (pv 4) (fun _ _ => rfl)) (fun _ _ => rfl)) (pv 6)) (nomark _))))) (pss_one (ps_ret pe_non)) pss_nil))))))) pss_nil)))))))
      (pss_one (ps_ret (pe_lc (own := [("_law_x", 7)]) (g := (gName 7)) (by rfl) sc_law_sides.nd (pi_range1 (by rfl) T.b_range (pa_cons (pe_callB (clen K) (by rfl) T.b_len (by decide +kernel) (pa_cons (pv 0) pa_nil)) pa_nil)) (blkOk_by (by kernel_rfl)) (fun _ _ _ _ _ => (pg_name (i := 7) sc_law_sides.nd rfl (Or.inl rfl))) (fun _ _ _ _ _ => pts_nil) (fun _ _ _ _ _ => (pe_dget (hu_of hr) (pv 1) (pv 7) (fun _ _ => rfl)))))))), ?_⟩
  obtain ⟨a, n, wf, rfl, hw, sw, k0⟩ := h
  have hn := sw.le
  refine q_dnew fun pd H1 hpd e1 h1 => ?_
  refine q_forR1 (ea_cons (e_lenW (hw.m e1) (ev_var rfl)) ea_nil) (by omega) (fun i σ' H' => ∃ (s : Nat → Int) (o2 o3 o4 o5 o6 : Option V), σ' = [some (.ref a), some (.ref pd), o2, o3, o4, o5, o6, none] ∧ Ex H H' ∧ DictS H' pd n s ∧ Sv n wf s [] n 0 ∧ So n wf s [] n 0 ∧ ∀ v, v < i → v < n → s v ≠ 0) ?_ ?_ ?_
  · exact fun H2 e2 => ⟨fun _ => 0, none, none, none, none, none, rfl, e1.trans e2, ⟨[], e2 _ _ h1, by have := Un_le n (fun _ => 0); simp; omega, fun i hi => rfl⟩, Sv.start, So.start, fun v hv => by omega⟩
  · rintro i σ' H' hi' ⟨s, o2, o3, o4, o5, o6, rfl, e2, hD, hS, hO, hA⟩
    have hi : i < n := by omega
    refine q_asgL (el_lst ea_nil (by simp)) fun ph H3 hph e3 hh3 => ?_
    have hphd : ph ≠ pd := fun z => by obtain ⟨kv, a1, _⟩ := hD; rw [z, a1] at hph; cases hph
    have hph0 := fresh_back e2 hph
    have hD3 := hD.ext e3
    have e23 := e2.trans e3
    obtain ⟨kvs, hk1, hk2, hk3⟩ := id hD3
    refine q_when2 (M := fun σ' H' => ∃ (s : Nat → Int) (here : List Nat), σ' = [some (.ref a), some (.ref pd), some (.int (i : Int)), some (.ref ph), o4, o5, o6, none] ∧ Ex H H' ∧ DictS H' pd n s ∧ H' ph = some (LN here) ∧ Sv n wf s here n 0 ∧ So n wf s here n 0 ∧ (∀ v, v < i + 1 → v < n → s v ≠ 0) ∧ here.length + Un n s ≤ n)
      (et_test (e_dnotin (ev_var rfl) (ev_var rfl) hk1)) ?_ (fun hb H4 e4 rest => ?_) fun hb H4 e4 => ?_
    · rintro σ' H4 ⟨s, here, rfl, e4, hD, hh, hS, hO, hA, hL⟩
      refine s_forR1 (D := { nx := _, rt := Q, bk := _, ct := _ }) (ea_cons (e_lenW (hw.m e4) (ev_var rfl)) ea_nil) (by omega) (fun k σ' H' => ∃ (s : Nat → Int) (here : List Nat) (o4 o5 o6 : Option V), σ' = [some (.ref a), some (.ref pd), some (.int (i : Int)), some (.ref ph), o4, o5, o6, none] ∧ Ex H H' ∧ DictS H' pd n s ∧ H' ph = some (LN here) ∧ Sv n wf s (here.drop k) n 0 ∧ So n wf s (here.drop k) n 0 ∧ (∀ v, v < i + 1 → v < n → s v ≠ 0) ∧ here.length + Un n s ≤ n) ?_ ?_ ?_
      · exact fun H5 e5 => ⟨s, here, _, _, _, rfl, e4.trans e5, hD.ext e5, e5 _ _ hh, by rw [List.drop_zero]; exact hS, by rw [List.drop_zero]; exact hO, hA, hL⟩
      · rintro k σ' H5 hk' ⟨s, here, o4, o5, o6, rfl, e5, hD, hh, hS, hO, hA, hL⟩
        have hlh : ((here.map fun (z : Nat) => V.int (z : Int)).length : Int) = (here.length : Int) := by rw [List.length_map]
        refine s_if (et_test (e_lt (ev_var rfl) (e_lenL (ev_var rfl) hh))) (fun hb H6 e6 => ?_) fun hb H6 e6 => ?_
        · have hkl : k < here.length := by
            have := of_decide_eq_true hb
            omega
          obtain ⟨x, hx⟩ : ∃ x, here[k]? = some x := ⟨_, List.getElem?_eq_getElem hkl⟩
          have hdrop : here.drop k = x :: here.drop (k + 1) := by
            rw [List.drop_eq_getElem_cons hkl]
            congr 1
            rw [List.getElem?_eq_getElem hkl] at hx
            exact Option.some.inj hx
          have hxok := hS.todo_ok x (by rw [hdrop]; simp)
          have hS6 : Sv n wf s (here.drop (k + 1)) x 0 := hS.take (fun v hv => by rw [hdrop, List.mem_cons] at hv; exact hv.symm) (fun v hv => by rw [hdrop]; exact List.mem_cons_of_mem _ hv) (by rw [hdrop]; simp)
          have hO6 : So n wf s (here.drop (k + 1)) x 0 := hO.take (fun v hv => by rw [hdrop, List.mem_cons] at hv; exact hv.symm)
          refine s_forR1 (D := { nx := _, rt := Q, bk := _, ct := _ }) (ea_cons (e_lenW (hw.m (e5.trans e6)) (ev_var rfl)) ea_nil) (by omega) (fun j σ' H' => ∃ (s : Nat → Int) (here : List Nat) (o5 o6 : Option V), σ' = [some (.ref a), some (.ref pd), some (.int (i : Int)), some (.ref ph), some (.int (k : Int)), o5, o6, none] ∧ Ex H H' ∧ DictS H' pd n s ∧ H' ph = some (LN here) ∧ Sv n wf s (here.drop (k + 1)) x j ∧ So n wf s (here.drop (k + 1)) x j ∧ (∀ v, v < i + 1 → v < n → s v ≠ 0) ∧ here.length + Un n s ≤ n ∧ here[k]? = some x ∧ s x ≠ 0) ?_ ?_ ?_
          · exact fun H7 e7 => ⟨s, here, _, _, rfl, (e5.trans e6).trans e7, (hD.ext e6).ext e7, e7 _ _ (e6 _ _ hh), hS6, hO6, hA, hL, hx, hxok.2⟩
          · rintro j σ' H7 hj' ⟨s, here, o5, o6, rfl, e7, hD, hh, hS, hO, hA, hL, hx, hsx⟩
            have hj : j < n := by omega
            have hxn := hxok.1
            have hx' : (here.map fun (z : Nat) => V.int (z : Int))[k]? = some (V.int (x : Int)) := by rw [List.getElem?_map, hx]; rfl
            refine q_asg (e_web (hw.m e7) (ev_var rfl) (e_ixL (k := k) (ev_var rfl) hh (ev_var rfl) rfl hx') (ev_var rfl) rfl rfl hxn hj) fun H8 e8 => ?_
            have hD8 := hD.ext e8
            have hh8 := e8 _ _ hh
            obtain ⟨kvs, hk1, hk2, hk3⟩ := id hD8
            have vx : valV kvs (.inl (x : Int)) = some (.int (s x)) := by rw [hk3 x hxn, if_neg hsx]
            have p1 : Pm (s x) := (hS.sgn x hxn).resolve_left hsx
            have bnd : CMul (s x) (wf x j) := by
              rcases sw.sgn x j hxn hj with z | z | z <;> rw [z] <;> exact .inr ⟨by decide, by decide⟩
            refine s_if (et_and (et_test (e_ne (ev_var rfl) ev_c)) fun _ => et_test (e_dnotin (ev_var rfl) (ev_var rfl) hk1)) (fun hb H9 e9 => ?_) fun hb H9 e9 => ?_
            · rw [Bool.and_eq_true] at hb
              have hwz : wf x j ≠ 0 := fun z => by rw [decide_eq_true z] at hb; cases hb.1
              have hsj : s j = 0 := by
                have h2 := hb.2
                rw [hk3 j hj] at h2
                by_cases c : s j = 0
                · exact c
                · rw [if_neg c] at h2; cases h2
              have hnz : s x * wf x j ≠ 0 := mul_ne hsx hwz
              have hk19 := e9 _ _ hk1
              have hh9 := e9 _ _ hh8
              refine q_dput hk19 (by omega) (e_mul (e_dget (ev_var rfl) (e_ixL (k := k) (ev_var rfl) hh9 (ev_var rfl) rfl hx') hk19 vx) (ev_var rfl) bnd) (ev_var rfl) (ev_var rfl) fun H10 e10 => ?_
              have hD10 : DictS (upd H10 pd (.dK (putK kvs (.inl (j : Int)) (.int (s x * wf x j))))) pd n (set1 s j (s x * wf x j)) := dict_put hk2 hk3 hj hsj hnz
              have hh10 : upd H10 pd (.dK (putK kvs (.inl (j : Int)) (.int (s x * wf x j)))) ph = some (LN here) := by rw [upd_ne hphd]; exact e10 _ _ hh9
              have e010 : Ex H (upd H10 pd (.dK (putK kvs (.inl (j : Int)) (.int (s x * wf x j))))) := Ex.mut ((e7.trans e8).trans (e9.trans e10)) hpd
              generalize upd H10 pd (.dK (putK kvs (.inl (j : Int)) (.int (s x * wf x j)))) = H11 at hD10 hh10 e010
              refine s_app hh10 (ev_var rfl) (ev_var rfl) (by rw [List.length_map]; omega) fun H12 e12 => ?_
              have hu := Un_set (n := n) (s := s) (v := s x * wf x j) hj hsj hnz
              have hkl : k + 1 ≤ here.length := (List.getElem?_eq_some_iff.mp hx).1
              have hxj : x ≠ j := fun z => hsx (by rw [z]; exact hsj)
              have hdr : (here ++ [j]).drop (k + 1) = here.drop (k + 1) ++ [j] := List.drop_append_of_le_length hkl
              refine ⟨set1 s j (s x * wf x j), here ++ [j], _, _, rfl, Ex.mut (e010.trans e12) hph0, (hD10.ext e12).other hphd, by rw [upd_same, LN, LN_app], ?_, ?_, fun v hv hvn => ?_, by rw [List.length_append]; simp; omega, by rw [List.getElem?_append_left (by omega)]; exact hx, by rw [set1_ne hxj]; exact hsx⟩
              · rw [hdr]
                exact hS.give sw.W hxn hsx hj hsj hwz (fun v => by rw [List.mem_append, List.mem_singleton])
              · rw [hdr]
                exact hO.give hsx hsj (fun v => by rw [List.mem_append, List.mem_singleton])
              · by_cases e : v = j
                · rw [e, set1_same]; exact hnz
                · rw [set1_ne e]; exact hA v hv hvn
            · have hk19 := e9 _ _ hk1
              have hh9 := e9 _ _ hh8
              have hin : (!decide (wf x j = 0)) = true → s j ≠ 0 := fun h2 z => by
                rw [h2, hk3 j hj, if_pos z] at hb
                cases hb
              refine s_if (et_and (b := !decide (s j = s x * wf x j)) (et_test (e_ne (ev_var rfl) ev_c)) fun h2 => et_test (e_ne (e_dget (ev_var rfl) (ev_var rfl) hk19 (by rw [hk3 j hj, if_neg (hin h2)])) (e_mul (e_dget (ev_var rfl) (e_ixL (k := k) (ev_var rfl) hh9 (ev_var rfl) rfl hx') hk19 vx) (ev_var rfl) bnd))) (fun hb2 H10 e10 => ?_) fun hb2 H10 e10 => ?_
              · rw [Bool.and_eq_true] at hb2
                have hwz : wf x j ≠ 0 := fun z => by rw [decide_eq_true z] at hb2; cases hb2.1
                have hne : s j ≠ s x * wf x j := fun z => by rw [decide_eq_true z] at hb2; cases hb2.2
                exact s_ret ev_c fun H11 e11 => k0 _ H11 ((e7.trans e8).trans ((e9.trans e10).trans e11)) (.inl ⟨rfl, hS.clash hxn hj hsx (hin hb2.1) hwz hne⟩)
              · have e810 := e8.trans (e9.trans e10)
                have hp : wf x j = 0 ∨ (s j ≠ 0 ∧ s j = s x * wf x j) := by
                  by_cases c : wf x j = 0
                  · exact .inl c
                  · right
                    have h2 : (!decide (wf x j = 0)) = true := by rw [decide_eq_false c]; rfl
                    refine ⟨hin h2, ?_⟩
                    rw [h2, Bool.true_and, Bool.not_eq_false'] at hb2
                    exact of_decide_eq_true hb2
                exact ⟨s, here, _, _, rfl, e7.trans e810, hD.ext e810, e810 _ _ hh, hS.pass (hp.imp id (·.1)), hO.pass (hp.imp id (·.2)), hA, hL, hx, hsx⟩
          · rintro σ' H7 ⟨s, here, o5, o6, rfl, e7, hD, hh, hS, hO, hA, hL, hx, hsx⟩
            rw [Int.toNat_natCast] at hS hO
            exact ⟨s, here, _, _, _, rfl, e7, hD, hh, hS.done, hO.done, hA, hL⟩
        · have hkl : here.length ≤ k := by
            have := of_decide_eq_false hb
            omega
          rw [List.drop_eq_nil_of_le hkl] at hS hO
          exact ⟨s, here, _, _, _, rfl, e5.trans e6, hD.ext e6, e6 _ _ hh, by rw [List.drop_eq_nil_of_le (by omega)]; exact hS, by rw [List.drop_eq_nil_of_le (by omega)]; exact hO, hA, hL⟩
      · rintro σ' H5 ⟨s, here, o4, o5, o6, rfl, e5, hD, hh, hS, hO, hA, hL⟩
        rw [Int.toNat_natCast, List.drop_eq_nil_of_le (by omega)] at hS hO
        exact ⟨s, _, _, _, _, _, rfl, e5, hD, hS, hO, hA⟩
    · have hsi : s i = 0 := by
        rw [hk3 i hi] at hb
        by_cases c : s i = 0
        · exact c
        · rw [if_neg c] at hb; cases hb
      have hk14 := e4 _ _ hk1
      refine q_dput hk14 (by omega) ev_c (ev_var rfl) (ev_var rfl) fun H5 e5 => ?_
      have hD5 : DictS (upd H5 pd (.dK (putK kvs (.inl (i : Int)) (.int 1)))) pd n (set1 s i 1) := dict_put hk2 hk3 hi hsi (by decide)
      have hh5 : upd H5 pd (.dK (putK kvs (.inl (i : Int)) (.int 1))) ph = some (.lst []) := by rw [upd_ne hphd]; exact e5 _ _ (e4 _ _ hh3)
      have e05 : Ex H (upd H5 pd (.dK (putK kvs (.inl (i : Int)) (.int 1)))) := Ex.mut (e23.trans (e4.trans e5)) hpd
      generalize upd H5 pd (.dK (putK kvs (.inl (i : Int)) (.int 1))) = H6 at hD5 hh5 e05
      refine s_app hh5 (ev_var rfl) (ev_var rfl) (by simp) fun H7 e7 => rest _ _ ?_
      have hu := Un_set (n := n) (s := s) (v := 1) hi hsi (by decide)
      have hle := Un_le n s
      refine ⟨set1 s i 1, [i], rfl, Ex.mut (e05.trans e7) hph0, (hD5.ext e7).other hphd, upd_same, Sv.begin_ sw.W hS hi hsi, hO.begin_ hsi, fun v hv hvn => ?_, by simp; omega⟩
      by_cases e : v = i
      · rw [e, set1_same]; decide
      · rw [set1_ne e]; exact hA v (by omega) hvn
    · have hsi : s i ≠ 0 := fun z => by
        rw [hk3 i hi, if_pos z] at hb
        cases hb
      have hle := Un_le n s
      refine ⟨s, [], rfl, e23.trans e4, hD3.ext e4, e4 _ _ hh3, hS, hO, fun v hv hvn => ?_, by simp; omega⟩
      by_cases e : v = i
      · rw [e]; exact hsi
      · exact hA v (by omega) hvn
  · rintro σ' H' ⟨s, o2, o3, o4, o5, o6, rfl, e2, hD, hS, hO, hA⟩
    rw [Int.toNat_natCast] at hA
    obtain ⟨kvs, hk1, hk2, hk3⟩ := id hD
    refine s_retL (lcA (c := fun i => V.int (s i)) (tn_range1 (ea_cons (e_lenW (hw.m e2) (ev_var rfl)) ea_nil) (by omega)) (by omega) (fun _ _ => rfl) fun i hi => e_dget (ev_var rfl) (ev_var rfl) hk1 (by rw [hk3 i hi, if_neg (hA i hi hi)])) fun p H3 hp e3 h3 => k0 _ H3 (e2.trans e3) (.inr ⟨p, s, rfl, hO.val hS fun v hv => hA v hv hv, h3⟩)
end
end Sg
set_option maxHeartbeats 4000000
/-! the trouble, counted place by place -/
namespace Sg
/-- the turning behind a mask: place 0 stands -/
def bT (m : Nat) : Nat → Bool := fun y => if y = 0 then false else m.testBit (y - 1)
theorem foe1_true {z : Int} (hz : z = 1 ∨ z = -1 ∨ z = 0) (q : Bool) : foe1 z true q = (if z = 0 then 0 else 1) - foe1 z false q := by
  rcases hz with rfl | rfl | rfl <;> cases q <;> decide
theorem sumN_sub {n : Nat} {f g : Nat → Int} : sumN n (fun i => f i - g i) = sumN n f - sumN n g := by
  induction n with
  | zero => rfl
  | succ n ih => rw [sumN_succ, sumN_succ, sumN_succ, ih]; omega
theorem bT_low {i m : Nat} (hm : m < 2 ^ i) : bT m (i + 1) = false := by
  unfold bT
  rw [if_neg (by omega), Nat.add_sub_cancel, Nat.testBit_lt_two_pow hm]
theorem bT_high {i m : Nat} (hm : m < 2 ^ i) : bT (2 ^ i + m) (i + 1) = true := by
  unfold bT
  rw [if_neg (by omega), Nat.add_sub_cancel, bit_split hm, set1_same]
theorem bT_same {i m y : Nat} (hm : m < 2 ^ i) (hy : y < i + 1) : bT (2 ^ i + m) y = bT m y := by
  unfold bT
  by_cases c : y = 0
  · rw [if_pos c, if_pos c]
  · rw [if_neg c, if_neg c, bit_split hm, set1_ne (by omega)]
theorem FE_low {i m : Nat} {w : Wf} (hm : m < 2 ^ i) : FE (i + 2) w (bT m) = FE (i + 1) w (bT m) + sumN (i + 1) fun y => foe1 (w (i + 1) y) false (bT m y) := by
  rw [FE_succ (i + 1), bT_low hm]
theorem FE_high {i m : Nat} {w : Wf} (hw : ∀ y, y < i + 1 → w (i + 1) y = 1 ∨ w (i + 1) y = -1 ∨ w (i + 1) y = 0) (hm : m < 2 ^ i) :
    FE (i + 2) w (bT (2 ^ i + m)) = FE (i + 1) w (bT m) + (sumN (i + 1) fun y => if w (i + 1) y = 0 then 0 else 1) - sumN (i + 1) fun y => foe1 (w (i + 1) y) false (bT m y) := by
  rw [FE_succ (i + 1), bT_high hm, FE_congr (w' := w) (b' := bT m) (fun _ _ _ _ => rfl) fun x hx => bT_same hm hx, sumN_congr (g := fun y => (if w (i + 1) y = 0 then 0 else 1) - foe1 (w (i + 1) y) false (bT m y)) fun y hy => by rw [bT_same hm hy, foe1_true (hw y hy)], sumN_sub]
  omega
/-- the least of them is the trouble -/
theorem trouble_min {n : Nat} {w : Wf} {m : Int} (hm : m ∈ (List.range (2 ^ n)).map fun k => FE (n + 1) w (bT k)) (hl : ∀ y, y ∈ (List.range (2 ^ n)).map (fun k => FE (n + 1) w (bT k)) → m ≤ y) : TroubleIs (n + 1) w m := by
  refine ⟨?_, ?_⟩
  · obtain ⟨k, _, rfl⟩ := List.mem_map.mp hm
    exact ⟨_, rfl⟩
  · have key : ∀ b : Nat → Bool, b 0 = false → m ≤ FE (n + 1) w b := fun b h0 => by
      obtain ⟨k, hk, hb⟩ := mask_of n fun y => b (y + 1)
      have := hl (FE (n + 1) w (bT k)) (List.mem_map.mpr ⟨k, List.mem_range.mpr hk, rfl⟩)
      rw [FE_congr (w' := w) (b' := b) (fun _ _ _ _ => rfl) fun x hx => ?_] at this
      · exact this
      · unfold bT
        by_cases c : x = 0
        · rw [if_pos c, c, h0]
        · rw [if_neg c, hb (x - 1) (by omega)]
          show b (x - 1 + 1) = b x
          rw [show x - 1 + 1 = x by omega]
    intro b
    cases h0 : b 0 with
    | false => exact key b h0
    | true =>
      rw [← FE_not]
      exact key _ (by simp [h0])
end Sg
set_option maxHeartbeats 4000000
namespace Sg
open PySem PySem.Spec PyProof.Rows L2 Evl
local macro_rules | `(tactic| walk_at "ev") => `(tactic| first
  | exact ev_c
  | exact ev_var rfl
  | assumption
  | refine e_neg (by walk_at "ev")
  | refine e_add (by walk_at "ev") (by walk_at "ev")
  | refine e_sub (by walk_at "ev") (by walk_at "ev")
  | refine e_web (by assumption) (by walk_at "ev") (by walk_at "ev") (by walk_at "ev") rfl rfl (by omega) (by omega)
  | refine e_lenW (by assumption) (by walk_at "ev")
  | refine e_eq (by walk_at "ev") (by walk_at "ev")
  | refine e_ne (by walk_at "ev") (by walk_at "ev")
  | refine e_lt (by walk_at "ev") (by walk_at "ev")
  | refine e_le (by walk_at "ev") (by walk_at "ev")
  | refine e_gt (by walk_at "ev") (by walk_at "ev")
  | refine e_ge (by walk_at "ev") (by walk_at "ev")
  | refine e_isN (by walk_at "ev")
  | refine e_notN (by walk_at "ev"))
section
variable {P : Program} {w : World} {K : PySem.W.Frag} {mg : Str → Option Value} {base : Heap}
def sp_law_trouble : Sp := fun vs H Q _ => ∃ (a : Addr) (n : Nat) (wf : Wf), vs = [.ref a] ∧ WebAt a n wf H ∧ Sw n wf ∧ RetP (fun v _ => ∃ m, v = .int m ∧ TroubleIs n wf m) H Q
theorem sc_law_trouble : FnScope ["_law_web_here", "_law_counts", "_law_x", "_law_after", "_law_mask", "_law_ties", "_law_foes", "_law_y", "_law_turned_here"] ["_law_web_here"] (defScope (top 53)) := ⟨rfl, rfl, rfl, by decide +kernel, rfl, by decide +kernel, by decide +kernel⟩
theorem ok_law_trouble (T : Top K mg)  : Cal P w K mg base 1 "_law_trouble" ["_law_web_here"] sp_law_trouble := by
  obtain ⟨f, fd, F, gF⟩ := T.d_law_trouble
  obtain ⟨tm, hmost⟩ := T.most
  refine ⟨⟨f, fd, ?_, gF, F.kp, F.bindsN fun _ _ _ _ _ _ us hl => match us, hl with | [_], _ => rfl⟩⟩
  refine F.ok sc_law_trouble (fun vs H Q E h => ?_) (fun cdv A outer s H vs Q E hr h => ?_)
  · repeat (first | (obtain ⟨rfl, _⟩ := h; rfl) | (obtain ⟨_, h⟩ := h))
  unfold sp_law_trouble at h
  refine (fun (z : ∃ t, PSs (cxOf CX0 P w K mg base ["_law_web_here", "_law_counts", "_law_x", "_law_after", "_law_mask", "_law_ties", "_law_foes", "_law_y", "_law_turned_here"] "_law_trouble" (defScope (top 53)) f cdv A outer s H E).nox (defBody (top 53)) t ∧ t { nx := fun _ H' => Q .non H', rt := Q } (L2.start ["_law_web_here", "_law_counts", "_law_x", "_law_after", "_law_mask", "_law_ties", "_law_foes", "_law_y", "_law_turned_here"] vs) H) => by
    obtain ⟨t, h1, h2⟩ := z
    exact ⟨t, h1.nox, h2⟩) ?_
  refine ⟨_, (pss_cons (ps_set (i := 1) sc_law_trouble.nd rfl (Or.inl rfl) (pe_lst (pa_cons pe_int pa_nil)))
      (pss_cons (ps_for PassesOwn.never rfl (pi_range2 (by rfl) T.b_range (pa_cons pe_int (pa_cons (pe_callB (clen K) (by rfl) T.b_len (by decide +kernel) (pa_cons (pv 0) pa_nil)) pa_nil))) (pg_name (i := 2) sc_law_trouble.nd rfl (Or.inl rfl)) (pss_cons (ps_set (i := 3) sc_law_trouble.nd rfl (Or.inl rfl) (pe_op op_rep (pe_lst (pa_cons pe_int pa_nil)) (pe_op op_mul pe_int (pe_callB (clen K) (by rfl) T.b_len (by decide +kernel) (pa_cons (pv 1) pa_nil)))))
      (pss_cons (ps_for PassesOwn.never rfl (pi_range1 (by rfl) T.b_range (pa_cons (pe_callB (clen K) (by rfl) T.b_len (by decide +kernel) (pa_cons (pv 1) pa_nil)) pa_nil)) (pg_name (i := 4) sc_law_trouble.nd rfl (Or.inl rfl)) (pss_cons (ps_set (i := 5) sc_law_trouble.nd rfl (Or.inl rfl) pe_int)
      (pss_cons (ps_set (i := 6) sc_law_trouble.nd rfl (Or.inl rfl) pe_int)
      (pss_cons (ps_for PassesOwn.never rfl (pi_range1 (by rfl) T.b_range (pa_cons (pv 2) pa_nil)) (pg_name (i := 7) sc_law_trouble.nd rfl (Or.inl rfl)) (pss_one (ps_if (pt_cmpR op_ne (pe_ix (ixT K) (pe_ix (ixT K) (pv 0) (pv 2) (fun _ _ => rfl)) (pv 7) (fun _ _ => rfl)) pe_int (nomark _)) (pss_cons (ps_set (i := 8) sc_law_trouble.nd rfl (Or.inl rfl) (pe_and (pe_cmpR op_gt (pv 7) pe_int (nomark _)) (pe_one (pe_cmpR op_eq (pe_op op_and (pe_op op_shr (pv 4) (pe_op op_sub (pv 7) pe_int)) pe_int) pe_int (nomark _)))))
      (pss_cons (ps_set (i := 5) sc_law_trouble.nd rfl (Or.inl rfl) (pe_op op_add (pv 5) pe_int))
      (pss_one (ps_set (i := 6) sc_law_trouble.nd rfl (Or.inl rfl) (pe_op op_add (pv 6) (pe_callTy call_int1 (by rfl) T.b_int (by decide +kernel) (pa_cons (pe_cmpR op_ne (pe_cmpR op_eq (pe_ix (ixT K) (pe_ix (ixT K) (pv 0) (pv 2) (fun _ _ => rfl)) (pv 7) (fun _ _ => rfl)) (pe_un un_neg pe_int) (nomark _)) (pv 8) (nomark _)) pa_nil))))))) pss_nil)))
      (pss_cons (ps_asg (pe_op op_add (pe_ix (ixL K) (pv 1) (pv 4) (fun _ _ => rfl)) (pv 6)) (pg_sub (pv 3) (pv 4) set_list))
      (pss_one (ps_asg (pe_op op_sub (pe_op op_add (pe_ix (ixL K) (pv 1) (pv 4) (fun _ _ => rfl)) (pv 5)) (pv 6)) (pg_sub (pv 3) (pe_op op_add (pv 4) (pe_callB (clen K) (by rfl) T.b_len (by decide +kernel) (pa_cons (pv 1) pa_nil))) set_list))))))))
      (pss_one (ps_set (i := 1) sc_law_trouble.nd rfl (Or.inl rfl) (pv 3))))))
      (pss_one (ps_ret (pe_callB (cmin K rfl) (by rfl) T.b_min (by decide +kernel) (pa_cons (pv 1) pa_nil)))))), ?_⟩
  obtain ⟨a, n, wf, rfl, hw, sw, k0⟩ := h
  have hn := sw.le
  have hn1 := sw.pos
  refine q_asgL (el_lst (ea_cons ev_c ea_nil) (by simp)) fun pc H1 hpc e1 h1 => ?_
  refine q_forR2 (lo := 1) (n := (n : Int)) (ea_cons ev_c (ea_cons (e_lenW (hw.m e1) (ev_var rfl)) ea_nil)) ⟨by omega, by omega, by omega, by omega⟩ (fun i σ' H' => ∃ (pc : Addr) (o2 o3 o4 o5 o6 o7 o8 : Option V), σ' = [some (.ref a), some (.ref pc), o2, o3, o4, o5, o6, o7, o8] ∧ Ex H H' ∧ H' pc = some (.lst ((List.range (2 ^ i)).map fun m => V.int (FE (i + 1) wf (bT m))))) ?_ ?_ ?_
  · exact fun H2 e2 => ⟨pc, none, none, none, none, none, none, none, rfl, e1.trans e2, e2 _ _ h1⟩
  · rintro i σ' H' hi' ⟨pc, o2, o3, o4, o5, o6, o7, o8, rfl, e2, hp⟩
    have hi : i + 1 < n := by omega
    have ex : (1 : Int) + (i : Int) = ((i + 1 : Nat) : Int) := by omega
    rw [ex]
    have h512 : 2 ^ (i + 1) ≤ 512 := Nat.pow_le_pow_right (by decide) (by omega : i + 1 ≤ 9)
    have hpos : 0 < 2 ^ i := Nat.two_pow_pos i
    have h2i : 2 ^ (i + 1) = 2 ^ i + 2 ^ i := by rw [Nat.pow_succ]; omega
    have hw2 := hw.m e2
    refine q_asgL (n_rep1 (m := 2 ^ (i + 1)) ev_c (ev_is (e_mul ev_c (e_lenLR hp (ev_var rfl)) (.inl ⟨by decide, by decide⟩)) (by rw [h2i]; congr 1; omega)) (by omega)) fun pa H3 hpa e3 h3 => ?_
    have hpa0 := fresh_back e2 hpa
    have hne : pa ≠ pc := fun z => by rw [z, hp] at hpa; cases hpa
    have e23 := e2.trans e3
    have hp3 := e3 _ _ hp
    refine q_forR1 (ea_cons (e_lenLR hp3 (ev_var rfl)) ea_nil) (by omega) (fun m σ' H' => ∃ (f : Nat → Int) (o4 o5 o6 o7 o8 : Option V), σ' = [some (.ref a), some (.ref pc), some (.int ((i + 1 : Nat) : Int)), some (.ref pa), o4, o5, o6, o7, o8] ∧ Ex H H' ∧ H' pc = some (.lst ((List.range (2 ^ i)).map fun m => V.int (FE (i + 1) wf (bT m)))) ∧ H' pa = some (.lst ((List.range (2 ^ (i + 1))).map fun j => V.int (f j))) ∧ ∀ j, j < m → j < 2 ^ i → f j = FE (i + 2) wf (bT j) ∧ f (2 ^ i + j) = FE (i + 2) wf (bT (2 ^ i + j))) ?_ ?_ ?_
    · exact fun H4 e4 => ⟨fun _ => 0, _, _, _, _, _, rfl, e23.trans e4, e4 _ _ hp3, e4 _ _ h3, fun j hj => by omega⟩
    · rintro m σ' H4 hm' ⟨f, o4, o5, o6, o7, o8, rfl, e4, hpc, hpa, hf⟩
      have hm : m < 2 ^ i := by omega
      refine q_asg ev_c fun H5 e5 => ?_
      refine q_asg ev_c fun H6 e6 => ?_
      have e46 := e5.trans e6
      refine q_forR1 (ea_cons (ev_var rfl) ea_nil) (by omega) (fun y σ' H' => ∃ (o7 o8 : Option V), σ' = [some (.ref a), some (.ref pc), some (.int ((i + 1 : Nat) : Int)), some (.ref pa), some (.int (m : Int)), some (.int (sumN y fun y => if wf (i + 1) y = 0 then 0 else 1)), some (.int (sumN y fun y => foe1 (wf (i + 1) y) false (bT m y))), o7, o8] ∧ Ex H4 H') ?_ ?_ ?_
      · exact fun H7 e7 => ⟨_, _, rfl, e46.trans e7⟩
      · rintro y σ' H7 hy' ⟨o7, o8, rfl, e7⟩
        have hy : y < i + 1 := by omega
        have hyn : y < n := by omega
        have hw7 := hw.m (e4.trans e7)
        refine s_if (et_test (e_ne (e_web hw7 (ev_var rfl) (ev_var rfl) (ev_var rfl) rfl rfl hi hyn) ev_c)) (fun hb H8 e8 => ?_) fun hb H8 e8 => ?_
        · have hz : wf (i + 1) y ≠ 0 := fun z => by rw [decide_eq_true z] at hb; cases hb
          refine q_asg (v := .bl (bT m y)) (ev_is (ev_andV (a := decide (0 < y)) (b := m.testBit (y - 1)) (ev_is (e_gt (ev_var rfl) ev_c) ?_) fun h0 => ev_is (e_eq (e_band (e_shr (ev_var rfl) (e_sub (ev_var rfl) ev_c) ?_) ev_c) ev_c) ?_) ?_) fun H9 e9 => ?_
          · congr 1
            by_cases c : 0 < y
            · rw [decide_eq_true c, decide_eq_true (by omega)]
            · rw [decide_eq_false c, decide_eq_false (by omega)]
          · have := of_decide_eq_true h0
            omega
          · have := of_decide_eq_true h0
            rw [show ((y : Int) - 1).toNat = y - 1 by omega, bit_and1]
            cases m.testBit (y - 1) <;> rfl
          · unfold bT
            by_cases c : y = 0
            · rw [if_pos c, decide_eq_false (by omega)]; rfl
            · rw [if_neg c, decide_eq_true (by omega), Bool.true_and]
          · refine q_asg (e_add (ev_var rfl) ev_c) fun H10 e10 => ?_
            have hw10 := hw7.m (e8.trans (e9.trans e10))
            refine s_asg (e_add (ev_var rfl) (e_intB (e_neB (e_eq (e_web hw10 (ev_var rfl) (ev_var rfl) (ev_var rfl) rfl rfl hi hyn) (e_neg ev_c)) (ev_var rfl)))) fun H11 e11 => ⟨some (.int (y : Int)), some (.bl (bT m y)), ?_, e7.trans ((e8.trans e9).trans (e10.trans e11))⟩
            rw [sumN_succ, sumN_succ, if_neg hz]
            have hf1 : foe1 (wf (i + 1) y) false (bT m y) = if (!decide (decide (wf (i + 1) y = -1) = bT m y)) = true then 1 else 0 := by
              unfold foe1
              rcases sw.sgn (i + 1) y hi hyn with z | z | z
              · rw [z]; cases bT m y <;> decide
              · rw [z]; cases bT m y <;> decide
              · exact absurd z hz
            rw [hf1]
            rfl
        · have hz : wf (i + 1) y = 0 := by
            rw [Bool.not_eq_false'] at hb
            exact of_decide_eq_true hb
          refine ⟨some (.int (y : Int)), o8, ?_, e7.trans e8⟩
          rw [sumN_succ, sumN_succ, if_pos hz, hz, foe1_zero, Int.add_zero, Int.add_zero]
          rfl
      · rintro σ' H7 ⟨o7, o8, rfl, e7⟩
        rw [Int.toNat_natCast]
        have hpc7 := e7 _ _ hpc
        refine q_setL (j := m) (e7 _ _ hpa) (e_add (e_ixLR hpc7 (ev_var rfl) (ev_var rfl) rfl hm) (ev_var rfl)) (ev_var rfl) (ev_var rfl) (by rw [range_map_len]; omega) fun H8 e8 => ?_
        rw [set_map (c := V.int) (by omega : m < 2 ^ (i + 1))]
        have hpc8 : upd H8 pa (.lst ((List.range (2 ^ (i + 1))).map fun j => V.int (set1 f m (FE (i + 1) wf (bT m) + sumN (i + 1) fun y => foe1 (wf (i + 1) y) false (bT m y)) j))) pc = some (.lst ((List.range (2 ^ i)).map fun m => V.int (FE (i + 1) wf (bT m)))) := by rw [upd_ne hne.symm]; exact e8 _ _ hpc7
        have e08 : Ex H (upd H8 pa (.lst ((List.range (2 ^ (i + 1))).map fun j => V.int (set1 f m (FE (i + 1) wf (bT m) + sumN (i + 1) fun y => foe1 (wf (i + 1) y) false (bT m y)) j)))) := Ex.mut ((e4.trans e7).trans e8) hpa0
        refine s_setL (j := m + 2 ^ i) upd_same (e_sub (e_add (e_ixLR hpc8 (ev_var rfl) (ev_var rfl) rfl hm) (ev_var rfl)) (ev_var rfl)) (ev_var rfl) (ev_is (e_add (ev_var rfl) (e_lenLR hpc8 (ev_var rfl))) (by congr 1)) (by rw [range_map_len]; omega) fun H9 e9 => ⟨_, _, _, _, _, _, rfl, Ex.mut (e08.trans e9) hpa0, by rw [upd_ne hne.symm]; exact e9 _ _ hpc8, by rw [upd_same, set_map (c := V.int) (by omega : m + 2 ^ i < 2 ^ (i + 1))], fun j hj hji => ?_⟩
        by_cases ej : j = m
        · rw [ej, set1_ne (by omega), set1_same, Nat.add_comm (2 ^ i) m, set1_same, Nat.add_comm m (2 ^ i), FE_low hm, FE_high (fun y hy => sw.sgn (i + 1) y hi (by omega)) hm]
          exact ⟨rfl, rfl⟩
        · obtain ⟨q1, q2⟩ := hf j (by omega) hji
          rw [set1_ne (by omega), set1_ne (by omega), set1_ne (by omega), set1_ne (by omega)]
          exact ⟨q1, q2⟩
    · rintro σ' H4 ⟨f, o4, o5, o6, o7, o8, rfl, e4, hpc, hpa, hf⟩
      rw [Int.toNat_natCast] at hf
      refine s_asg (ev_var rfl) fun H5 e5 => ⟨pa, _, _, _, _, _, _, _, rfl, e4.trans e5, ?_⟩
      rw [e5 _ _ hpa]
      congr 2
      refine List.map_congr_left fun j hj => ?_
      have hj2 := List.mem_range.mp hj
      by_cases c : j < 2 ^ i
      · rw [(hf j c c).1]
      · have := (hf (j - 2 ^ i) (by omega) (by omega)).2
        rw [show 2 ^ i + (j - 2 ^ i) = j by omega] at this
        rw [this]
  · rintro σ' H' ⟨pc, o2, o3, o4, o5, o6, o7, o8, rfl, e2, hp⟩
    have en : ((n : Int) - 1).toNat = n - 1 := by omega
    rw [en] at hp
    have hp' : H' pc = some (.lst (((List.range (2 ^ (n - 1))).map fun m => FE (n - 1 + 1) wf (bT m)).map V.int)) := by rw [hp, List.map_map]; rfl
    refine s_retP (e_minL (ev_var rfl) hp' (by simp; exact Nat.two_pow_pos _)) fun v H3 e3 ⟨m, ev, q1, q2⟩ => k0 v H3 (e2.trans e3) ⟨m, ev, ?_⟩
    have := trouble_min q1 q2
    rw [show n - 1 + 1 = n by omega] at this
    exact this
end
end Sg
set_option maxHeartbeats 4000000
namespace Sg
open PySem PySem.Spec PyProof.Rows L2 Evl
local macro_rules | `(tactic| walk_at "ev") => `(tactic| first
  | exact ev_c
  | exact ev_var rfl
  | assumption
  | refine e_neg (by walk_at "ev")
  | refine e_add (by walk_at "ev") (by walk_at "ev")
  | refine e_sub (by walk_at "ev") (by walk_at "ev")
  | refine e_web (by assumption) (by walk_at "ev") (by walk_at "ev") (by walk_at "ev") rfl rfl (by omega) (by omega)
  | refine e_lenW (by assumption) (by walk_at "ev")
  | refine e_eq (by walk_at "ev") (by walk_at "ev")
  | refine e_ne (by walk_at "ev") (by walk_at "ev")
  | refine e_lt (by walk_at "ev") (by walk_at "ev")
  | refine e_le (by walk_at "ev") (by walk_at "ev")
  | refine e_gt (by walk_at "ev") (by walk_at "ev")
  | refine e_ge (by walk_at "ev") (by walk_at "ev")
  | refine e_isN (by walk_at "ev")
  | refine e_notN (by walk_at "ev"))
section
variable {wl : Addr} {σ : L2.St} {H : Hp} {ta tb te : TE} {R Rb : V → Hp → Prop} {x : V}
theorem m_call2 {sp : Sp} {E : XK} (ha : Ev ta σ H x) (hb : EvM wl tb σ H Rb) (hs : ∀ v H1, Exw wl H H1 → Wl wl H1 → Rb v H1 → ∀ Q : VK, (∀ v H2, Exw wl H1 H2 → Wl wl H2 → R v H2 → Q v H2) → sp [x, v] H1 Q E) : EvM wl (tCall sp [] E (tCons ta (tCons tb tNil))) σ H R := fun H1 e Q q =>
  ha H1 e _ fun H2 e2 => hb H2 (e.trans e2) _ fun v H3 e3 w3 r => hs v H3 ((Exw.of (e.trans e2)).trans e3) w3 r Q fun u H4 e4 w4 r4 => q u H4 (((Exw.of e2).trans e3).trans e4) w4 r4
end
def absW (w : Wf) : Wf := fun x y => if w x y < 0 then - w x y else w x y
theorem Sw.abs {n : Nat} {w : Wf} (h : Sw n w) : Sw n (absW w) := ⟨h.pos, h.le, fun x y hx hy => by
    unfold absW
    rcases h.sgn x y hx hy with z | z | z <;> rw [z] <;> decide, fun x y hx hy => by
    unfold absW
    rw [h.sym x y hx hy], fun x hx => by
    unfold absW
    rw [h.dia x hx]
    decide⟩
theorem Sw.turn {n : Nat} {w : Wf} (h : Sw n w) (l : List Nat) : Sw n (turnW w l) := ⟨h.pos, h.le, fun x y hx hy => by
    unfold turnW
    rcases h.sgn x y hx hy with z | z | z <;> rw [z] <;> split <;> decide, fun x y hx hy => by
    unfold turnW
    rw [h.sym x y hx hy]
    by_cases c : decide (x ∈ l) = decide (y ∈ l)
    · rw [if_pos c, if_pos c.symm]
    · rw [if_neg c, if_neg fun z => c z.symm], fun x hx => by
    unfold turnW
    rw [if_pos rfl, h.dia x hx]⟩
theorem asc_filter (n : Nat) (c : Nat → Bool) (k : Nat) (hk : k + 1 < ((List.range n).filter c).length) : ((List.range n).filter c).getD k 0 < ((List.range n).filter c).getD (k + 1) 0 := by
  have h : ((List.range n).filter c).Pairwise (· < ·) := List.Pairwise.filter _ List.pairwise_lt_range
  rw [List.getD_eq_getElem?_getD, List.getD_eq_getElem?_getD, List.getElem?_eq_getElem hk, List.getElem?_eq_getElem (by omega : k < _)]
  exact List.pairwise_iff_getElem.mp h k (k + 1) (by omega) hk (by omega)
theorem len_filter (n : Nat) (c : Nat → Bool) : ((List.range n).filter c).length ≤ n := by
  have := List.length_filter_le c (List.range n)
  rw [List.length_range] at this
  exact this
theorem row_ints (n : Nat) (f : Nat → Int) : ((List.range n).map fun j => V.int (f j)) = ((List.range n).map f).map V.int := by rw [List.map_map]; rfl
def NoFoe (n : Nat) (w : Wf) : Prop := ∀ x y, x < n → y < n → w x y ≠ -1
theorem val_camp {n : Nat} {w : Wf} {s : Nat → Int} (W : SgnW n w) (h : Val n w s) : CampL n w ((List.range n).filter fun x => decide (s x = -1)) := fun x y hxy hy hw => by
  have hx : x < n := by omega
  have mem : ∀ z, z < n → decide (z ∈ (List.range n).filter fun x => decide (s x = -1)) = decide (s z = -1) := fun z hz => by
    have : z ∈ ((List.range n).filter fun x => decide (s x = -1)) ↔ s z = -1 := by
      rw [List.mem_filter, List.mem_range]
      exact ⟨fun q => of_decide_eq_true q.2, fun q => ⟨hz, decide_eq_true q⟩⟩
    by_cases c : s z = -1
    · rw [decide_eq_true c, decide_eq_true (this.mpr c)]
    · rw [decide_eq_false c, decide_eq_false fun q => c (this.mp q)]
  rw [mem x hx, mem y hy, h.2 x y hx hy hw]
  rcases h.1 x hx with a | a <;> rcases W.1 x y hx hy with b | b | b
  · rw [a, b]; decide
  · rw [a, b]; decide
  · exact absurd b hw
  · rw [a, b]; decide
  · rw [a, b]; decide
  · exact absurd b hw
section
variable {P : Program} {w : World} {K : PySem.W.Frag} {mg : Str → Option Value} {base : Heap}
def sp_law_some_web : Sp := fun vs H Q _ => ∃ (wl : Addr) (m : Nat), vs = [.ref wl, .int (m : Int)] ∧ Wl wl H ∧ 1 ≤ m ∧ m ≤ 5 ∧ ∀ v H2 n wf, Exw wl H H2 → Wl wl H2 → Sw n wf → n ≤ m → IsW n wf v H2 → Q v H2
theorem sc_law_some_web : FnScope ["_law_well_here", "_law_most", "_law_web_here", "_law_way", "_law_plain", "_law_sign", "_law_line"] ["_law_well_here", "_law_most"] (defScope (top 54)) := ⟨rfl, rfl, rfl, by decide +kernel, rfl, by decide +kernel, by decide +kernel⟩
theorem ok_law_some_web (T : Top K mg) (C_law_dip : Cal P w K mg base 1 "_law_dip" ["_law_well_here", "_law_many"] sp_law_dip) (C_law_web : Cal P w K mg base 2 "_law_web" ["_law_well_here", "_law_many"] sp_law_web) (C_law_lot : Cal P w K mg base 2 "_law_lot" ["_law_well_here", "_law_many"] sp_law_lot) (C_law_turned : Cal P w K mg base 1 "_law_turned" ["_law_web_here", "_law_lot_here"] sp_law_turned) : Cal P w K mg base 3 "_law_some_web" ["_law_well_here", "_law_most"] sp_law_some_web := by
  obtain ⟨f, fd, F, gF⟩ := T.d_law_some_web
  obtain ⟨tm, hmost⟩ := T.most
  refine ⟨⟨f, fd, ?_, gF, F.kp, F.bindsN fun _ _ _ _ _ _ us hl => match us, hl with | [_, _], _ => rfl⟩⟩
  refine F.ok sc_law_some_web (fun vs H Q E h => ?_) (fun cdv A outer s H vs Q E hr h => ?_)
  · repeat (first | (obtain ⟨rfl, _⟩ := h; rfl) | (obtain ⟨_, h⟩ := h))
  unfold sp_law_some_web at h
  refine (fun (z : ∃ t, PSs (cxOf CX0 P w K mg base ["_law_well_here", "_law_most", "_law_web_here", "_law_way", "_law_plain", "_law_sign", "_law_line"] "_law_some_web" (defScope (top 54)) f cdv A outer s H E).nox (defBody (top 54)) t ∧ t { nx := fun _ H' => Q .non H', rt := Q } (L2.start ["_law_well_here", "_law_most", "_law_web_here", "_law_way", "_law_plain", "_law_sign", "_law_line"] vs) H) => by
    obtain ⟨t, h1, h2⟩ := z
    exact ⟨t, h1.nox, h2⟩) ?_
  refine ⟨_, (pss_cons (ps_set (i := 2) sc_law_some_web.nd rfl (Or.inl rfl) (C_law_web.pe hr (by rfl) (pa_cons (pv 0) (pa_cons (pe_op op_add pe_int (C_law_dip.pe hr (by rfl) (pa_cons (pv 0) (pa_cons (pv 1) pa_nil)))) pa_nil))))
      (pss_cons (ps_set (i := 3) sc_law_some_web.nd rfl (Or.inl rfl) (C_law_dip.pe hr (by rfl) (pa_cons (pv 0) (pa_cons pe_int pa_nil))))
      (pss_cons (ps_if (pt_cmpR op_eq (pv 3) pe_int (nomark _)) (pss_one (ps_ret (pv 2))) pss_nil)
      (pss_cons (ps_set (i := 4) sc_law_some_web.nd rfl (Or.inl rfl) (pe_callTy (ctup K) (by rfl) T.b_tuple (by decide +kernel) (pa_cons (pe_lc (own := [("_law_line", 6)]) (g := (gName 6)) (by rfl) sc_law_some_web.nd (piT K (pv 2)) (blkOk_by (by kernel_rfl)) (fun _ _ _ _ _ => (pg_name (i := 6) sc_law_some_web.nd rfl (Or.inl rfl))) (fun _ _ _ _ _ => pts_nil) (fun _ _ _ _ _ => (pe_callTy (ctup K) (by rfl) T.b_tuple (by decide +kernel) (pa_cons (pe_lc (own := [("_law_sign", 5)]) (g := (gName 5)) (by rfl) sc_law_some_web.nd (piT K (pv 6)) (blkOk_by (by kernel_rfl)) (fun _ _ _ _ _ => (pg_name (i := 5) sc_law_some_web.nd rfl (Or.inl rfl))) (fun _ _ _ _ _ => pts_nil) (fun _ _ _ _ _ => (pe_callB call_abs (by rfl) T.b_abs (by decide +kernel) (pa_cons (pv 5) pa_nil)))) pa_nil)))) pa_nil)))
      (pss_cons (ps_if (pt_cmpR op_eq (pv 3) pe_int (nomark _)) (pss_one (ps_ret (pv 4))) pss_nil)
      (pss_one (ps_ret (C_law_turned.pe hr (by rfl) (pa_cons (pv 4) (pa_cons (C_law_lot.pe hr (by rfl) (pa_cons (pv 0) (pa_cons (pe_callB (clen K) (by rfl) T.b_len (by decide +kernel) (pa_cons (pv 2) pa_nil)) pa_nil))) pa_nil)))))))))), ?_⟩
  obtain ⟨wl, m, rfl, W, h1, h5, k⟩ := h
  refine q_asgM (R := fun v H' => ∃ n wf, Sw n wf ∧ n ≤ m ∧ IsW n wf v H') (m_call2 (Rb := fun v _ => ∃ r : Nat, v = .int ((1 + r : Nat) : Int) ∧ r < m) (ev_var rfl) (m_opR ev_c (m_dip W (ea_cons (ev_var rfl) (ea_cons (ev_var rfl) ea_nil)) ⟨by omega, by omega⟩) fun v H1 e1 w1 ⟨r, ev, hr⟩ Q1 q => ⟨_, _, rfl, ev, q _ H1 (Ex.refl _) ⟨r, by congr 1, hr⟩⟩) fun v H1 e1 w1 ⟨r, ev, hr⟩ Q1 q => ⟨wl, 1 + r, by rw [ev], w1, by omega, by omega, fun v H2 wf e2 w2 sw hw => q v H2 e2 w2 ⟨_, wf, sw, by omega, hw⟩⟩) ?_
  rintro _ H1 e1 W1 ⟨n, wf, sw, hnm, a, rfl, hw⟩
  have hn := sw.le
  refine q_asgM (m_dip W1 (ea_cons (ev_var rfl) (ea_cons ev_c ea_nil)) (m := 3) ⟨by decide, by decide⟩) ?_
  rintro _ H2 e2 W2 ⟨way, rfl, _⟩
  have hw2 := hw.w W1 e2
  have e12 := e1.trans e2
  refine q_when (et_test (e_eq (ev_var rfl) ev_c)) (fun _ H3 e3 => ?_) fun _ H3 e3 => ?_
  · exact s_ret (ev_var rfl) fun H4 e4 => k _ H4 n wf (e12.trans (Exw.of (e3.trans e4))) (W2.ext (e3.trans e4)) sw hnm ⟨a, rfl, hw2.m (e3.trans e4)⟩
  · have hw3 := hw2.m e3
    obtain ⟨rs, g1, g2⟩ := id hw3
    refine q_asgP (R := IsW n (absW wf)) ((e_tupN (lcPA (R := fun i v H' => IsT ((List.range n).map fun j => V.int (absW wf i j)) v H') (tn_tup (ev_var rfl) g1) (by omega) (fun _ _ => rfl) (fun i hi => EvP.isT (e_tupN (EvN.of (lcA (c := fun j => V.int (absW wf i j)) (tn_tup (ev_var rfl) (g2 i hi)) (by omega) (fun _ _ => rfl) fun j hj => e_abs (ev_var rfl))) m_eq)) (fun _ => IsT.mt)) (fun _ _ _ e r => Paired.mono (fun _ _ r => IsT.mt _ _ _ (ExT.of e) r) r)).imp fun v H4 e4 ⟨p, xs, ev, hp, r⟩ => ⟨p, ev, web_of hp r⟩) ?_
    rintro _ H4 e4 ⟨b, rfl, hb⟩
    have e34 := e3.trans e4
    refine q_when (et_test (e_eq (ev_var rfl) ev_c)) (fun _ H5 e5 => ?_) fun _ H5 e5 => ?_
    · exact s_ret (ev_var rfl) fun H6 e6 => k _ H6 n _ (e12.trans (Exw.of (e34.trans (e5.trans e6)))) (W2.ext (e34.trans (e5.trans e6))) sw.abs hnm ⟨b, rfl, hb.m (e5.trans e6)⟩
    · have W5 := W2.ext (e34.trans e5)
      have hb5 := hb.m e5
      have hw5 := hw2.m (e34.trans e5)
      refine s_retM (R := fun v H' => ∃ l, IsW n (turnW (absW wf) l) v H') (m_call2 (Rb := fun v H' => ∃ c, IsLot n c v H') (ev_var rfl) (c_callM (ea_cons (ev_var rfl) (ea_cons (e_lenW hw5 (ev_var rfl)) ea_nil)) fun H6 e6 Q1 q => ⟨wl, n, rfl, W5.ext e6, hn, fun v H7 c e7 w7 hl => q v H7 e7 w7 ⟨c, hl⟩⟩) fun v H6 e6 w6 ⟨c, l, ev, hl⟩ Q1 q => ⟨b, l, n, _, _, by rw [ev], hb5.w W5 e6, hn, hl, fun v H7 e7 r => q v H7 (Exw.of e7) (w6.ext e7) ⟨_, r⟩⟩) ?_
      rintro v H6 e6 w6 ⟨l, r⟩
      exact k v H6 n _ ((e12.trans (Exw.of (e34.trans e5))).trans e6) w6 (sw.abs.turn l) hnm r
def sp_law_no_foe : Sp := fun vs H Q _ => ∃ (a : Addr) (n : Nat) (wf : Wf), vs = [.ref a] ∧ WebAt a n wf H ∧ n ≤ 10 ∧ RetP (fun v _ => ∃ b, v = .bl b ∧ (b = true ↔ NoFoe n wf)) H Q
theorem dp_rows {H : Hp} {n : Nat} {w : Wf} : ∀ {xs : List V} {ls : List Nat}, Paired (fun v i => IsT ((List.range n).map fun j => V.int (w i j)) v H) xs ls → DpAll K H xs (ls.map fun i => rowD n (w i))
  | _, _, .nil => .nil
  | _, _, .cons ⟨a, e, h⟩ t => by
    refine .cons ?_ (dp_rows t)
    rw [e]
    exact dp_row h
theorem sc_law_no_foe : FnScope ["_law_web_here", "_law_line"] ["_law_web_here"] (defScope (top 55)) := ⟨rfl, rfl, rfl, by decide +kernel, rfl, by decide +kernel, by decide +kernel⟩
theorem ok_law_no_foe (T : Top K mg)  : Cal P w K mg base 1 "_law_no_foe" ["_law_web_here"] sp_law_no_foe := by
  obtain ⟨f, fd, F, gF⟩ := T.d_law_no_foe
  obtain ⟨tm, hmost⟩ := T.most
  refine ⟨⟨f, fd, ?_, gF, F.kp, F.bindsN fun _ _ _ _ _ _ us hl => match us, hl with | [_], _ => rfl⟩⟩
  refine F.ok sc_law_no_foe (fun vs H Q E h => ?_) (fun cdv A outer s H vs Q E hr h => ?_)
  · repeat (first | (obtain ⟨rfl, _⟩ := h; rfl) | (obtain ⟨_, h⟩ := h))
  unfold sp_law_no_foe at h
  refine (fun (z : ∃ t, PSs (cxOf CX0 P w K mg base ["_law_web_here", "_law_line"] "_law_no_foe" (defScope (top 55)) f cdv A outer s H E).nox (defBody (top 55)) t ∧ t { nx := fun _ H' => Q .non H', rt := Q } (L2.start ["_law_web_here", "_law_line"] vs) H) => by
    obtain ⟨t, h1, h2⟩ := z
    exact ⟨t, h1.nox, h2⟩) ?_
  refine ⟨_, (pss_one (ps_ret (pe_cmpR (eqD K hr.units) (pe_lc (own := [("_law_line", 1)]) (g := (gName 1)) (by rfl) sc_law_no_foe.nd (piT K (pv 0)) (blkOk_by (by kernel_rfl)) (fun _ _ _ _ _ => (pg_name (i := 1) sc_law_no_foe.nd rfl (Or.inl rfl))) (fun _ _ _ _ _ => (pts_one (pt_cmpR (inSq K) (pe_un un_neg pe_int) (pv 1) (by rfl)))) (fun _ _ _ _ _ => (pv 1))) (pe_lst pa_nil) (nomark _)))), ?_⟩
  obtain ⟨a, n, wf, rfl, hw, hn, k⟩ := h
  obtain ⟨rs, g1, g2⟩ := id hw
  refine s_ret (e_eqD (EvN.dp ((lcP (f := fun i => decide ((-1 : Int) ∈ (List.range n).map (wf i))) (R := fun i v H' => IsT ((List.range n).map fun j => V.int (wf i j)) v H') (tn_tup (ev_var rfl) g1) (by omega) (fun _ _ => rfl) (fun i hi => et_test (e_in (e_neg ev_c) (ev_var rfl) (by rw [g2 i hi, row_ints]))) (fun i hi _ => EvP.tup (ev_var rfl) (g2 i hi)) (fun _ => IsT.mt)).imp fun _ _ _ r => dp_rows r)) dp_nil (Dk.list fun d hd => by
    obtain ⟨j, _, rfl⟩ := List.mem_map.mp hd
    exact Dk.rowD _ _) Dk.nil (by decide)) fun H1 e1 => k _ H1 e1 ⟨_, rfl, ?_⟩
  rw [eqv_nil, List.isEmpty_iff, List.filter_eq_nil_iff]
  constructor
  · intro h x y hx hy z
    exact h x (List.mem_range.mpr hx) (decide_eq_true (List.mem_map.mpr ⟨y, List.mem_range.mpr hy, z⟩))
  · intro h x hx z
    obtain ⟨y, hy, e⟩ := List.mem_map.mp (of_decide_eq_true z)
    exact h x y (List.mem_range.mp hx) (List.mem_range.mp hy) e
def sp_law_balanced_right : Sp := fun vs H Q _ => ∃ (a : Addr) (n : Nat) (wf : Wf), vs = [.ref a] ∧ WebAt a n wf H ∧ Sw n wf ∧ RetV (.bl true) H Q
theorem sc_law_balanced_right : FnScope ["_law_web_here", "_law_sides_here", "_law_told", "_law_x"] ["_law_web_here"] (defScope (top 56)) := ⟨rfl, rfl, rfl, by decide +kernel, rfl, by decide +kernel, by decide +kernel⟩
theorem ok_law_balanced_right (T : Top K mg) (C_is_balanced : Cal P w K mg base 5 "is_balanced" ["web"] sp_is_balanced) (C_is_camp : Cal P w K mg base 5 "is_camp" ["web", "lot"] sp_is_camp) (C_law_sides : Cal P w K mg base 1 "_law_sides" ["_law_web_here"] sp_law_sides) : Cal P w K mg base 6 "_law_balanced_right" ["_law_web_here"] sp_law_balanced_right := by
  obtain ⟨f, fd, F, gF⟩ := T.d_law_balanced_right
  obtain ⟨tm, hmost⟩ := T.most
  refine ⟨⟨f, fd, ?_, gF, F.kp, F.bindsN fun _ _ _ _ _ _ us hl => match us, hl with | [_], _ => rfl⟩⟩
  refine F.ok sc_law_balanced_right (fun vs H Q E h => ?_) (fun cdv A outer s H vs Q E hr h => ?_)
  · repeat (first | (obtain ⟨rfl, _⟩ := h; rfl) | (obtain ⟨_, h⟩ := h))
  unfold sp_law_balanced_right at h
  refine (fun (z : ∃ t, PSs (cxOf CX0 P w K mg base ["_law_web_here", "_law_sides_here", "_law_told", "_law_x"] "_law_balanced_right" (defScope (top 56)) f cdv A outer s H E).nox (defBody (top 56)) t ∧ t { nx := fun _ H' => Q .non H', rt := Q } (L2.start ["_law_web_here", "_law_sides_here", "_law_told", "_law_x"] vs) H) => by
    obtain ⟨t, h1, h2⟩ := z
    exact ⟨t, h1.nox, h2⟩) ?_
  refine ⟨_, (pss_cons (ps_set (i := 1) sc_law_balanced_right.nd rfl (Or.inr rfl) (C_law_sides.pe hr (by rfl) (pa_cons (pv 0) pa_nil)))
      (pss_cons (ps_set (i := 2) sc_law_balanced_right.nd rfl (Or.inl rfl) (C_is_balanced.pe hr (by rfl) (pa_cons (pv 0) pa_nil)))
      (pss_cons (ps_if (PW.pt (pw_or (pt_not (pt_val (pe_callB (cisi K) (by rfl) T.b_isinstance (by decide +kernel) (pa_cons (pv 2) (pa_cons (pe_bltn (v := .ty "bool") (by rfl) T.b_bool (by decide +kernel) rfl) pa_nil))))) (pw_or1 (pt_cmpR op_ne (pv 2) (pe_cmpR op_notN (pv 1) pe_non (nomark _)) (nomark _))))) (pss_one (ps_ret pe_bl)) pss_nil)
      (pss_one (ps_ret (pe_or (pe_cmpR op_isN (pv 1) pe_non (nomark _)) (pe_one (pe_cmpR op_isBl (C_is_camp.pe hr (by rfl) (pa_cons (pv 0) (pa_cons (pe_callTy (ctup K) (by rfl) T.b_tuple (by decide +kernel) (pa_cons (pe_lc (own := [("_law_x", 3)]) (g := (gName 3)) (by rfl) sc_law_balanced_right.nd (pi_range1 (by rfl) T.b_range (pa_cons (pe_callB (clen K) (by rfl) T.b_len (by decide +kernel) (pa_cons (pv 0) pa_nil)) pa_nil)) (blkOk_by (by kernel_rfl)) (fun _ _ _ _ _ => (pg_name (i := 3) sc_law_balanced_right.nd rfl (Or.inl rfl))) (fun _ _ _ _ _ => (pts_one (pt_cmpR op_eq (pe_ix (ixL K) (pv 1) (pv 3) (fun _ _ => rfl)) (pe_un un_neg pe_int) (nomark _)))) (fun _ _ _ _ _ => (pv 3))) pa_nil)) pa_nil))) pe_bl (nomark _))))))))), ?_⟩
  obtain ⟨a, n, wf, rfl, hw, sw, k⟩ := h
  have hn := sw.le
  refine q_asgP (R := fun v H' => (v = .non ∧ ¬ Bal n wf) ∨ ∃ p s, v = .ref p ∧ Val n wf s ∧ H' p = some (.lst ((List.range n).map fun i => V.int (s i)))) (c_call (ea_cons (ev_var rfl) ea_nil) fun H1 e1 Q1 q => ⟨a, n, wf, rfl, hw.m e1, sw, q⟩) fun v H1 e1 r1 => ?_
  refine q_asgP (R := fun v _ => ∃ b, v = .bl b ∧ (b = true ↔ Bal n wf)) (c_call (ea_cons (ev_var rfl) ea_nil) fun H2 e2 Q1 q => ⟨a, n, wf, rfl, hw.m (e1.trans e2), sw, q⟩) ?_
  rintro _ H2 e2 ⟨b, rfl, hb⟩
  have e12 := e1.trans e2
  refine q_skip (et_or (a := false) (b := false) (et_not (a := true) (et_B (e_isi (t := .type "bool") (ev_var rfl) (fun _ _ => .base (.bl b)) (kit_ty (by decide +kernel))))) fun _ => et_test (ev_is (e_neB (ev_var rfl) (e_notN (ev_var rfl))) ?_)) fun H3 e3 => ?_
  · rcases r1 with ⟨rfl, nb⟩ | ⟨p, s, rfl, vs, _⟩
    · cases b with
      | true => exact absurd (hb.mp rfl) nb
      | false => rfl
    · rw [hb.mpr ⟨s, vs⟩]; rfl
  · have e13 := e12.trans e3
    refine s_ret (ev_is (v := .bl (decide (v = .non) || true)) (ev_orV (b := true) (e_isN (ev_var rfl)) fun h0 => ?_) (by rw [Bool.or_true])) fun H4 e4 => k H4 (e13.trans e4)
    rcases r1 with ⟨rfl, nb⟩ | ⟨p, s, rfl, vs, hp⟩
    · cases h0
    · have hp3 := (e2.trans e3) _ _ hp
      refine ev_is (e_isB (a := true) (EvP.ev (R := fun v _ => v = .bl true) (c_call2P (Rb := IsT (((List.range n).filter fun x => decide (s x = -1)).map fun (x : Nat) => V.int (x : Int))) (ev_var rfl) (EvP.isT (e_tupN (EvN.of (lcD (f := fun x => decide (s x = -1)) (c := fun (x : Nat) => V.int (x : Int)) (tn_range1 (ea_cons (e_lenW (hw.m e13) (ev_var rfl)) ea_nil) (by omega)) (by omega) (fun _ _ => rfl) (fun i hi => et_test (e_eq (e_ixLR hp3 (ev_var rfl) (ev_var rfl) rfl hi) (e_neg ev_c))) fun i hi _ => ev_var rfl)) m_eq)) ?_) fun v H' _ r => r) ev_c) rfl
      rintro v H4 e4 ⟨l, ev, hl⟩ Q1 q
      exact ⟨a, l, n, wf, _, by rw [ev], hw.m (e13.trans e4), sw, hl, Nat.le_trans (len_filter _ _) (by omega), fun x hx => List.mem_range.mp (List.mem_filter.mp hx).1, asc_filter n _, val_camp sw.W vs, fun H5 e5 => q _ H5 e5 rfl⟩
end
end Sg
set_option maxHeartbeats 4000000
/-! joining and putting in: what is even, balanced, turned -/
namespace Sg
def TurnBy (n : Nat) (w w' : Wf) (c : Nat → Bool) : Prop := ∀ x y, x < n → y < n → w' x y = w x y * sg (c x) * sg (c y)
theorem sg_pm (b : Bool) : Pm (sg b) := by
  cases b
  · exact .inl rfl
  · exact .inr rfl
theorem TurnBy.alike {n : Nat} {w w' : Wf} {c : Nat → Bool} (h : TurnBy n w w' c) : Alike n w w' := ⟨fun x => sg (c x), fun x _ => sg_pm _, h⟩
theorem turnW_sg (w : Wf) (l : List Nat) (x y : Nat) : turnW w l x y = w x y * sg (decide (x ∈ l)) * sg (decide (y ∈ l)) := by
  unfold turnW sg
  cases decide (x ∈ l) <;> cases decide (y ∈ l) <;> simp
theorem Alike.bal {n : Nat} {w w' : Wf} (h : Alike n w w') (b : Bal n w) : Bal n w' := by
  obtain ⟨e, h1, h2⟩ := h
  obtain ⟨t, t1, t2⟩ := b
  refine ⟨fun x => t x * e x, fun x hx => (t1 x hx).mul (h1 x hx), fun x y hx hy hw => ?_⟩
  rw [h2 x y hx hy] at hw ⊢
  have hz : w x y ≠ 0 := fun z => hw (by rw [z, Int.zero_mul, Int.zero_mul])
  show t y * e y = t x * e x * (w x y * e x * e y)
  rw [t2 x y hx hy hz]
  rcases h1 x hx with a | a <;> rw [a] <;> simp [Int.mul_assoc, Int.neg_mul, Int.mul_neg]
theorem Alike.symm {n : Nat} {w w' : Wf} (h : Alike n w w') : Alike n w' w := by
  obtain ⟨e, h1, h2⟩ := h
  refine ⟨e, h1, fun x y hx hy => ?_⟩
  rw [h2 x y hx hy]
  rcases h1 x hx with a | a <;> rcases h1 y hy with b | b <;> rw [a, b] <;> simp
/-! ### joined -/
theorem Sw.join {n m : Nat} {w o : Wf} {s : Int} (hw : Sw n w) (ho : Sw m o) (hs : s = 1 ∨ s = -1) (h : n + m ≤ 10) : Sw (n + m) (joinW n w o s) := by
  have h1 := hw.pos
  refine ⟨by omega, h, fun x y hx hy => ?_, fun x y hx hy => ?_, fun x hx => ?_⟩
  · unfold joinW
    have hs' : s = 1 ∨ s = -1 ∨ s = 0 := by rcases hs with z | z; exact .inl z; exact .inr (.inl z)
    split
    · split
      · exact hw.sgn x y (by omega) (by omega)
      · exact hs'
    · split
      · exact hs'
      · exact ho.sgn _ _ (by omega) (by omega)
  · unfold joinW
    by_cases a : x < n <;> by_cases b : y < n
    · rw [if_pos a, if_pos b, if_pos b, if_pos a, hw.sym x y a b]
    · rw [if_pos a, if_neg b, if_neg b, if_pos a]
    · rw [if_neg a, if_pos b, if_pos b, if_neg a]
    · rw [if_neg a, if_neg b, if_neg b, if_neg a, ho.sym _ _ (by omega) (by omega)]
  · unfold joinW
    by_cases a : x < n
    · rw [if_pos a, if_pos a, hw.dia x a]
    · rw [if_neg a, if_neg a, ho.dia _ (by omega)]
theorem join_turn {n m : Nat} {w o : Wf} : TurnBy (n + m) (joinW n w o 1) (joinW n w o (-1)) fun x => decide (n ≤ x) := fun x y hx hy => by
  show joinW n w o (-1) x y = joinW n w o 1 x y * sg (decide (n ≤ x)) * sg (decide (n ≤ y))
  unfold joinW sg
  by_cases a : x < n <;> by_cases b : y < n
  · rw [if_pos a, if_pos b, if_pos a, if_pos b, decide_eq_false (by omega), decide_eq_false (by omega)]
    simp
  · rw [if_pos a, if_neg b, if_pos a, if_neg b, decide_eq_false (by omega), decide_eq_true (by omega)]
    decide
  · rw [if_neg a, if_pos b, if_neg a, if_pos b, decide_eq_true (by omega), decide_eq_false (by omega)]
    decide
  · rw [if_neg a, if_neg b, if_neg a, if_neg b, decide_eq_true (by omega), decide_eq_true (by omega)]
    simp
theorem nofoe_one {n : Nat} {w : Wf} (hw : Sw n w) (h : NoFoe n w) {x y : Nat} (hx : x < n) (hy : y < n) (hz : w x y ≠ 0) : w x y = 1 := by
  rcases hw.sgn x y hx hy with z | z | z
  · exact z
  · exact absurd z (h x y hx hy)
  · exact absurd z hz
/-- all sides alike: no foe -/
theorem nofoe_of {n : Nat} {w : Wf} {t : Nat → Int} {z : Int} (hz : Pm z) (ht : ∀ x, x < n → t x = z) (h : ∀ x y, x < n → y < n → w x y ≠ 0 → t y = t x * w x y) : NoFoe n w := fun x y hx hy e => by
  have := h x y hx hy (by rw [e]; decide)
  rw [ht x hx, ht y hy, e] at this
  rcases hz with a | a <;> rw [a] at this <;> exact absurd this (by decide)
theorem bal_join1 {n m : Nat} {w o : Wf} (hw : Sw n w) (ho : Sw m o) : Bal (n + m) (joinW n w o 1) ↔ NoFoe n w ∧ NoFoe m o := by
  have h1 := hw.pos
  have h2 := ho.pos
  constructor
  · rintro ⟨t, t1, t2⟩
    have cross : ∀ x y, x < n → y < m → t (n + y) = t x := fun x y hx hy => by
      have e : joinW n w o 1 x (n + y) = 1 := by unfold joinW; rw [if_pos hx, if_neg (by omega)]
      have := t2 x (n + y) (by omega) (by omega) (by rw [e]; decide)
      rw [e, Int.mul_one] at this
      exact this
    have left : ∀ x, x < n → t x = t 0 := fun x hx => by rw [← cross x 0 hx h2, cross 0 0 h1 h2]
    refine ⟨nofoe_of (t1 0 (by omega)) left fun x y hx hy hz => ?_, nofoe_of (t := fun y => t (n + y)) (t1 0 (by omega)) (fun y hy => cross 0 y h1 hy) fun x y hx hy hz => ?_⟩
    · have e : joinW n w o 1 x y = w x y := by unfold joinW; rw [if_pos hx, if_pos hy]
      rw [← e] at hz ⊢
      exact t2 x y (by omega) (by omega) hz
    · have e : joinW n w o 1 (n + x) (n + y) = o x y := by unfold joinW; rw [if_neg (by omega), if_neg (by omega), Nat.add_sub_cancel_left, Nat.add_sub_cancel_left]
      rw [← e] at hz ⊢
      exact t2 _ _ (by omega) (by omega) hz
  · rintro ⟨f1, f2⟩
    refine ⟨fun _ => 1, fun _ _ => .inl rfl, fun x y hx hy hz => ?_⟩
    have : joinW n w o 1 x y = 1 := by
      unfold joinW at hz ⊢
      by_cases a : x < n <;> by_cases b : y < n
      · rw [if_pos a, if_pos b] at hz ⊢; exact nofoe_one hw f1 a b hz
      · rw [if_pos a, if_neg b]
      · rw [if_neg a, if_pos b]
      · rw [if_neg a, if_neg b] at hz ⊢; exact nofoe_one ho f2 (by omega) (by omega) hz
    rw [this]; rfl
theorem bal_join {n m : Nat} {w o : Wf} {s : Int} (hw : Sw n w) (ho : Sw m o) (hs : s = 1 ∨ s = -1) : Bal (n + m) (joinW n w o s) ↔ NoFoe n w ∧ NoFoe m o := by
  rw [← bal_join1 hw ho]
  rcases hs with rfl | rfl
  · exact Iff.rfl
  · exact ⟨fun h => (join_turn (m := m)).alike.symm.bal h, fun h => (join_turn (m := m)).alike.bal h⟩
/-! ### put in -/
def usk (p x : Nat) : Nat := if x < p then x else x - 1
theorem skp_usk {p x : Nat} (h : x ≠ p) : skp p (usk p x) = x := by
  unfold skp usk
  by_cases c : x < p
  · rw [if_pos c, if_pos c]
  · rw [if_neg c, if_neg (by omega)]
    omega
theorem usk_lt {n p x : Nat} (hp : p < n) (hx : x < n) (h : x ≠ p) : usk p x < n - 1 := by
  unfold usk
  split <;> omega
section
variable {n m p : Nat} {w o : Wf}
theorem put_ll {x y : Nat} (hx : x < n - 1) (hy : y < n - 1) : putW n p w o x y = w (skp p x) (skp p y) := by unfold putW; rw [if_pos hx, if_pos hy]
theorem put_lr {x y : Nat} (hx : x < n - 1) (hy : ¬ y < n - 1) : putW n p w o x y = w (skp p x) p := by unfold putW; rw [if_pos hx, if_neg hy]
theorem put_rl {x y : Nat} (hx : ¬ x < n - 1) (hy : y < n - 1) : putW n p w o x y = w p (skp p y) := by unfold putW; rw [if_neg hx, if_pos hy]
theorem put_rr {x y : Nat} (hx : ¬ x < n - 1) (hy : ¬ y < n - 1) : putW n p w o x y = o (x - (n - 1)) (y - (n - 1)) := by unfold putW; rw [if_neg hx, if_neg hy]
theorem Sw.put (hw : Sw n w) (ho : Sw m o) (hp : p < n) (h : n - 1 + m ≤ 10) : Sw (n - 1 + m) (putW n p w o) := by
  have h1 := ho.pos
  refine ⟨by omega, h, fun x y hx hy => ?_, fun x y hx hy => ?_, fun x hx => ?_⟩
  · by_cases a : x < n - 1 <;> by_cases b : y < n - 1
    · rw [put_ll a b]; exact hw.sgn _ _ (skp_lt hp a).1 (skp_lt hp b).1
    · rw [put_lr a b]; exact hw.sgn _ _ (skp_lt hp a).1 hp
    · rw [put_rl a b]; exact hw.sgn _ _ hp (skp_lt hp b).1
    · rw [put_rr a b]; exact ho.sgn _ _ (by omega) (by omega)
  · by_cases a : x < n - 1 <;> by_cases b : y < n - 1
    · rw [put_ll a b, put_ll b a]; exact hw.sym _ _ (skp_lt hp a).1 (skp_lt hp b).1
    · rw [put_lr a b, put_rl b a]; exact hw.sym _ _ (skp_lt hp a).1 hp
    · rw [put_rl a b, put_lr b a]; exact hw.sym _ _ hp (skp_lt hp b).1
    · rw [put_rr a b, put_rr b a]; exact ho.sym _ _ (by omega) (by omega)
  · by_cases a : x < n - 1
    · rw [put_ll a a]; exact hw.dia _ (skp_lt hp a).1
    · rw [put_rr a a]; exact ho.dia _ (by omega)
theorem put_turn {w' : Wf} {c : Nat → Bool} (h : TurnBy n w w' c) (hp : p < n) : TurnBy (n - 1 + m) (putW n p w o) (putW n p w' o) fun x => if x < n - 1 then c (skp p x) else c p := fun x y hx hy => by
  show putW n p w' o x y = putW n p w o x y * sg (if x < n - 1 then c (skp p x) else c p) * sg (if y < n - 1 then c (skp p y) else c p)
  by_cases a : x < n - 1 <;> by_cases b : y < n - 1
  · rw [put_ll a b, put_ll a b, if_pos a, if_pos b]; exact h _ _ (skp_lt hp a).1 (skp_lt hp b).1
  · rw [put_lr a b, put_lr a b, if_pos a, if_neg b]; exact h _ _ (skp_lt hp a).1 hp
  · rw [put_rl a b, put_rl a b, if_neg a, if_pos b]; exact h _ _ hp (skp_lt hp b).1
  · rw [put_rr a b, put_rr a b, if_neg a, if_neg b, Int.mul_assoc, (sg_pm (c p)).sq, Int.mul_one]
theorem bal_put (hw : Sw n w) (ho : Sw m o) (hp : p < n) {tied : Bool} (ht : tied = true ↔ ∃ y, y < n ∧ w p y ≠ 0) : Bal (n - 1 + m) (putW n p w o) ↔ Bal n w ∧ if tied = true then NoFoe m o else Bal m o := by
  have h1 := ho.pos
  constructor
  · rintro ⟨t, t1, t2⟩
    refine ⟨⟨fun x => if x = p then t (n - 1) else t (usk p x), fun x hx => ?_, fun x y hx hy hz => ?_⟩, ?_⟩
    · show Pm (if x = p then t (n - 1) else t (usk p x))
      split
      · exact t1 _ (by omega)
      · rename_i h
        have := usk_lt hp hx h
        exact t1 _ (by omega)
    · show (if y = p then t (n - 1) else t (usk p y)) = (if x = p then t (n - 1) else t (usk p x)) * w x y
      by_cases a : x = p
      · by_cases b : y = p
        · rw [a, b, hw.dia p hp] at hz; exact absurd rfl hz
        · have l := usk_lt hp hy b
          rw [if_neg b, if_pos a]
          have e := put_rl (p := p) (w := w) (o := o) (show ¬ n - 1 < n - 1 by omega) l
          rw [skp_usk b, ← a] at e
          rw [← e] at hz ⊢
          rw [a]
          rw [a] at hz
          exact t2 _ _ (by omega) (by omega) hz
      · have l := usk_lt hp hx a
        by_cases b : y = p
        · rw [if_pos b, if_neg a]
          have e := put_lr (p := p) (w := w) (o := o) l (show ¬ n - 1 < n - 1 by omega)
          rw [skp_usk a, ← b] at e
          rw [← e] at hz ⊢
          rw [b]
          rw [b] at hz
          exact t2 _ _ (by omega) (by omega) hz
        · have l2 := usk_lt hp hy b
          rw [if_neg a, if_neg b]
          have e := put_ll (p := p) (w := w) (o := o) l l2
          rw [skp_usk a, skp_usk b] at e
          rw [← e] at hz ⊢
          exact t2 _ _ (by omega) (by omega) hz
    · have inner : ∀ a b, a < m → b < m → o a b ≠ 0 → t (n - 1 + b) = t (n - 1 + a) * o a b := fun a b ha hb hz => by
        have e := put_rr (n := n) (p := p) (w := w) (o := o) (show ¬ n - 1 + a < n - 1 by omega) (show ¬ n - 1 + b < n - 1 by omega)
        rw [Nat.add_sub_cancel_left, Nat.add_sub_cancel_left] at e
        rw [← e] at hz ⊢
        exact t2 _ _ (by omega) (by omega) hz
      split
      · rename_i hT
        obtain ⟨y, hy, hwy⟩ := ht.mp hT
        have hyp : y ≠ p := fun e => hwy (by rw [e]; exact hw.dia p hp)
        have l := usk_lt hp hy hyp
        rw [hw.sym p y hp hy] at hwy
        have pz : Pm (t (usk p y) * w y p) := (t1 _ (by omega)).mul (by
          rcases hw.sgn y p hy hp with z | z | z
          · exact .inl z
          · exact .inr z
          · exact absurd z hwy)
        refine nofoe_of (t := fun a => t (n - 1 + a)) pz (fun a ha => ?_) inner
        have e := put_lr (p := p) (w := w) (o := o) l (show ¬ n - 1 + a < n - 1 by omega)
        rw [skp_usk hyp] at e
        rw [← e] at hwy ⊢
        exact t2 _ _ (by omega) (by omega) hwy
      · exact ⟨fun a => t (n - 1 + a), fun a ha => t1 _ (by omega), inner⟩
  · rintro ⟨⟨t, t1, t2⟩, hO⟩
    by_cases hT : tied = true
    · rw [if_pos hT] at hO
      refine ⟨fun x => if x < n - 1 then t (skp p x) else t p, fun x hx => ?_, fun x y hx hy hz => ?_⟩
      · show Pm (if x < n - 1 then t (skp p x) else t p)
        split
        · rename_i h; exact t1 _ (skp_lt hp h).1
        · exact t1 p hp
      · show (if y < n - 1 then t (skp p y) else t p) = (if x < n - 1 then t (skp p x) else t p) * putW n p w o x y
        by_cases a : x < n - 1 <;> by_cases b : y < n - 1
        · rw [if_pos a, if_pos b]
          rw [put_ll a b] at hz ⊢
          exact t2 _ _ (skp_lt hp a).1 (skp_lt hp b).1 hz
        · rw [if_pos a, if_neg b]
          rw [put_lr a b] at hz ⊢
          exact t2 _ _ (skp_lt hp a).1 hp hz
        · rw [if_neg a, if_pos b]
          rw [put_rl a b] at hz ⊢
          exact t2 _ _ hp (skp_lt hp b).1 hz
        · rw [if_neg a, if_neg b]
          rw [put_rr a b] at hz ⊢
          rw [nofoe_one ho hO (by omega) (by omega) hz, Int.mul_one]
    · rw [if_neg hT] at hO
      have no : ∀ y, y < n → w p y = 0 := fun y hy => Classical.byContradiction fun q => hT (ht.mpr ⟨y, hy, q⟩)
      obtain ⟨u, u1, u2⟩ := hO
      refine ⟨fun x => if x < n - 1 then t (skp p x) else u (x - (n - 1)), fun x hx => ?_, fun x y hx hy hz => ?_⟩
      · show Pm (if x < n - 1 then t (skp p x) else u (x - (n - 1)))
        split
        · rename_i h; exact t1 _ (skp_lt hp h).1
        · exact u1 _ (by omega)
      · show (if y < n - 1 then t (skp p y) else u (y - (n - 1))) = (if x < n - 1 then t (skp p x) else u (x - (n - 1))) * putW n p w o x y
        by_cases a : x < n - 1 <;> by_cases b : y < n - 1
        · rw [if_pos a, if_pos b]
          rw [put_ll a b] at hz ⊢
          exact t2 _ _ (skp_lt hp a).1 (skp_lt hp b).1 hz
        · rw [put_lr a b, hw.sym _ _ (skp_lt hp a).1 hp, no _ (skp_lt hp a).1] at hz
          exact absurd rfl hz
        · rw [put_rl a b, no _ (skp_lt hp b).1] at hz
          exact absurd rfl hz
        · rw [if_neg a, if_neg b]
          rw [put_rr a b] at hz ⊢
          exact u2 _ _ (by omega) (by omega) hz
end
end Sg
set_option maxHeartbeats 4000000
/-! answers told by what they say -/
namespace Sg
open PySem PySem.Spec PyProof.Rows L2 Evl
def EvB (te : TE) (σ : L2.St) (H : Hp) (p : Prop) : Prop := EvP te σ H fun v _ => ∃ b, v = .bl b ∧ (b = true ↔ p)
section
variable {K : PySem.W.Frag} {σ : L2.St} {H H' : Hp} {ta tb tc te : TE} {t : TT} {x y v u : V} {n m : Nat} {R : V → Hp → Prop} {w : Wf} {a : Addr} {p q : Prop}
theorem eb_and (h1 : EvB ta σ H p) (h2 : EvB tb σ H q) : EvB (tAndV ta tb) σ H (p ∧ q) := fun H1 e Q k =>
  h1 H1 e _ fun v H2 e2 ⟨b, ev, hb⟩ => ⟨b, ev, by
    cases b with
    | true =>
      refine iteT ?_
      exact h2 H2 (e.trans e2) Q fun u H3 e3 ⟨c, eu, hc⟩ => k u H3 (e2.trans e3) ⟨c, eu, ⟨fun z => ⟨hb.mp rfl, hc.mp z⟩, fun z => hc.mpr z.2⟩⟩
    | false =>
      refine iteF ?_
      exact k _ H2 e2 ⟨false, rfl, ⟨fun z => (by cases z), fun z => hb.mpr z.1⟩⟩⟩
theorem eb_if {b : Bool} (h : EvT t σ H b) (h1 : EvB ta σ H p) (h2 : EvB tb σ H q) : EvB (tIf t ta tb) σ H (if b = true then p else q) := e_ifP h (fun hb => h1.imp fun v _ _ ⟨c, ev, hc⟩ => ⟨c, ev, by rw [if_pos hb]; exact hc⟩) fun hb => h2.imp fun v _ _ ⟨c, ev, hc⟩ => ⟨c, ev, by rw [if_neg (by rw [hb]; exact Bool.false_ne_true)]; exact hc⟩
theorem eb_sides {E : XK} (ha : Ev ta σ H (.ref a)) (hw : WebAt a n w H) (sw : Sw n w) : EvB (tOp (fun x y H Q => y = .non ∧ Q (.bl (!decide (x = .non))) H) (tCall sp_law_sides [] E (tCons ta tNil)) (tC .non)) σ H (Bal n w) := fun H1 e Q k =>
  c_call (R := fun v H' => (v = .non ∧ ¬ Bal n w) ∨ ∃ p s, v = .ref p ∧ Val n w s ∧ H' p = some (.lst ((List.range n).map fun i => V.int (s i)))) (ea_cons ha ea_nil) (fun H2 e2 Q1 q => ⟨a, n, w, rfl, hw.m e2, sw, q⟩) H1 e _ fun v H2 e2 r => ⟨rfl, k _ H2 e2 ⟨_, rfl, by
    rcases r with ⟨rfl, nb⟩ | ⟨p, s, rfl, vs, _⟩
    · exact ⟨fun z => (by cases z), fun z => absurd z nb⟩
    · exact ⟨fun _ => ⟨s, vs⟩, fun _ => rfl⟩⟩⟩
theorem eb_nofoe {E : XK} (ha : Ev ta σ H (.ref a)) (hw : WebAt a n w H) (hn : n ≤ 10) : EvB (tCall sp_law_no_foe [] E (tCons ta tNil)) σ H (NoFoe n w) := c_call (ea_cons ha ea_nil) fun H2 e2 Q1 q => ⟨a, n, w, rfl, hw.m e2, hn, q⟩
/-- unlike, where both say the same -/
theorem et_neB {c : Bool} (h : EvB ta σ H p) (hb : Ev tb σ H (.bl c)) (hc : c = true ↔ p) : EvT (tTest (tOp rNe ta tb)) σ H false := fun H1 e Q k =>
  h H1 e _ fun v H2 e2 ⟨b, ev, hv⟩ => hb H2 (e.trans e2) _ fun H3 e3 => by
    subst ev
    refine ⟨rfl, false, ?_, k H3 (e2.trans e3)⟩
    have : b = c := by
      cases b <;> cases c
      · rfl
      · exact absurd (hv.mpr (hc.mp rfl)) (by decide)
      · exact absurd (hc.mpr (hv.mp rfl)) (by decide)
      · rfl
    subst this
    show V.bl (!decide (V.bl b = V.bl b)) = V.bl false
    rw [decide_eq_true rfl]; rfl
theorem e_tupRg {lo hi : Nat} (ha : Ev ta σ H (.int (lo : Int))) (hb : Ev tb σ H (.int (hi : Int))) (h : lo ≤ hi ∧ hi ≤ 1000) : EvP (tTupRg (tRg2 ta tb)) σ H (IsT (((List.range (hi - lo)).map fun i => lo + i).map fun (x : Nat) => V.int (x : Int))) := fun H1 e Q q =>
  ha H1 e _ fun H2 e2 => hb H2 (e.trans e2) _ fun H3 e3 => ⟨_, _, rfl, rfl, RgOk.of_le (by omega) (by omega) (by omega) (by omega), fun p hp => q _ _ ((e2.trans e3).trans (Ex.new hp)) ⟨p, rfl, by
    rw [upd_same]
    unfold rgV
    rw [List.map_map, show ((hi : Int) - (lo : Int)).toNat = hi - lo by omega]
    congr 2⟩⟩
theorem c_call3P {sp : Sp} {E : XK} {Ra : V → Hp → Prop} (ha : EvP ta σ H Ra) (ma : Mono Ra) (hb : Ev tb σ H x) (hc : Ev tc σ H y) (hs : ∀ v H1, Ex H H1 → Ra v H1 → ∀ Q : VK, (∀ v H2, Ex H1 H2 → R v H2 → Q v H2) → sp [v, x, y] H1 Q E) : EvP (tCall sp [] E (tCons ta (tCons tb (tCons tc tNil)))) σ H R := fun H1 e Q q =>
  ha H1 e _ fun v H2 e2 r => hb H2 (e.trans e2) _ fun H3 e3 => hc H3 ((e.trans e2).trans e3) _ fun H4 e4 => hs v H4 (((e.trans e2).trans e3).trans e4) (ma _ _ _ (e3.trans e4) r) Q fun u H5 e5 r5 => q u H5 (((e2.trans e3).trans e4).trans e5) r5
/-- sorted(a new tuple of ints) -/
theorem n_sortT {l : List Int} (h : EvP te σ H (IsT (l.map V.int))) (hl : l.length < 64) : EvN (tCB (rSortT K) (tCons te tNil)) σ H (fun xs _ => ∃ ns : List Int, ns.Perm l ∧ xs = ns.map V.int) := fun H1 e Q q =>
  h H1 e _ fun v H2 e2 ⟨a, ev, ha⟩ => ⟨a, l, by rw [ev], st_of ha, hl, fun ns p hp hn => q p _ _ (fresh_back e2 hn) (e2.trans (Ex.new hn)) upd_same ⟨ns, hp, rfl⟩⟩
/-- equal numbers, told by a word that only one number fits -/
theorem e_eqM {f g : Int → Prop} (ha : EvP ta σ H (fun v _ => ∃ m, v = .int m ∧ f m)) (hb : EvP tb σ H (fun v _ => ∃ m, v = .int m ∧ g m)) (h : ∀ m m', f m → g m' → m = m') : Ev (tOp rEq ta tb) σ H (.bl true) := fun H1 e Q q =>
  ha H1 e _ fun v H2 e2 ⟨m, ev, hm⟩ => hb H2 (e.trans e2) _ fun u H3 e3 ⟨m', eu, hm'⟩ => by
    subst ev eu
    have := h m m' hm hm'
    subst this
    refine ⟨rfl, ?_⟩
    have z := q H3 (e2.trans e3)
    rw [decide_eq_true rfl]
    exact z
theorem IsW.mo {w : Wf} : Mono (IsW n w) := IsW.mt.m
theorem IsT.mo {xs : List V} : Mono (IsT xs) := IsT.mt.m
end
/-- the places picked out of a list -/
theorem pick_list {α β : Type} (l : List α) (d : α) (f : α → Bool) (g : α → β) : (((List.range l.length).filter fun i => f (l.getD i d)).map fun i => g (l.getD i d)) = (l.filter f).map g := by
  have e := as_range l d id
  rw [List.map_id] at e
  conv => rhs; rw [e, List.filter_map, List.map_map]
  rfl
/-- a lot behind a sort -/
theorem lot_perm {ns : List Int} {l : List Nat} (h : ns.Perm (l.map fun (x : Nat) => (x : Int))) : ∃ l' : List Nat, ns = l'.map (fun (x : Nat) => (x : Int)) ∧ ∀ x, x ∈ l' ↔ x ∈ l := by
  refine ⟨ns.map Int.toNat, ?_, fun x => ?_⟩
  · rw [List.map_map]
    have : ns = ns.map id := (List.map_id ns).symm
    conv => lhs; rw [this]
    refine List.map_congr_left fun z hz => ?_
    obtain ⟨y, _, rfl⟩ := List.mem_map.mp (h.mem_iff.mp hz)
    simp
  · rw [List.mem_map]
    constructor
    · rintro ⟨z, hz, rfl⟩
      obtain ⟨y, hy, rfl⟩ := List.mem_map.mp (h.mem_iff.mp hz)
      rw [Int.toNat_natCast]
      exact hy
    · intro hx
      exact ⟨(x : Int), h.mem_iff.mpr (List.mem_map.mpr ⟨x, hx, rfl⟩), Int.toNat_natCast x⟩
theorem mem_run {lo k x : Nat} : x ∈ (List.range k).map (fun i => lo + i) ↔ lo ≤ x ∧ x < lo + k := by
  rw [List.mem_map]
  constructor
  · rintro ⟨i, hi, rfl⟩
    have := List.mem_range.mp hi
    omega
  · rintro ⟨h1, h2⟩
    exact ⟨x - lo, List.mem_range.mpr (by omega), by omega⟩
theorem turn_eq {n : Nat} {w w' : Wf} {c : Nat → Bool} {l : List Nat} (h : TurnBy n w w' c) (hc : ∀ x, x < n → c x = decide (x ∈ l)) : ∀ x y, x < n → y < n → w' x y = turnW w l x y := fun x y hx hy => by
  rw [h x y hx hy, turnW_sg, hc x hx, hc y hy]
theorem turnW_by (n : Nat) (w : Wf) (l : List Nat) : TurnBy n w (turnW w l) fun x => decide (x ∈ l) := fun x y _ _ => turnW_sg w l x y
end Sg
set_option maxHeartbeats 4000000
namespace Sg
open PySem PySem.Spec PyProof.Rows L2 Evl
local macro_rules | `(tactic| walk_at "ev") => `(tactic| first
  | exact ev_c
  | exact ev_var rfl
  | assumption
  | refine e_neg (by walk_at "ev")
  | refine e_add (by walk_at "ev") (by walk_at "ev")
  | refine e_sub (by walk_at "ev") (by walk_at "ev")
  | refine e_web (by assumption) (by walk_at "ev") (by walk_at "ev") (by walk_at "ev") rfl rfl (by omega) (by omega)
  | refine e_lenW (by assumption) (by walk_at "ev")
  | refine e_eq (by walk_at "ev") (by walk_at "ev")
  | refine e_ne (by walk_at "ev") (by walk_at "ev")
  | refine e_lt (by walk_at "ev") (by walk_at "ev")
  | refine e_le (by walk_at "ev") (by walk_at "ev")
  | refine e_gt (by walk_at "ev") (by walk_at "ev")
  | refine e_ge (by walk_at "ev") (by walk_at "ev")
  | refine e_isN (by walk_at "ev")
  | refine e_notN (by walk_at "ev"))
theorem usk_skp {p x : Nat} : usk p (skp p x) = x := by
  unfold usk skp
  by_cases c : x < p
  · rw [if_pos c, if_pos c]
  · rw [if_neg c, if_neg (by omega)]
    omega
section
variable {P : Program} {w : World} {K : PySem.W.Frag} {mg : Str → Option Value} {base : Heap}
def sp_law_put_right : Sp := fun vs H Q _ => ∃ (a b l : Addr) (n m p : Nat) (wf of : Wf) (c : Nat → Bool), vs = [.ref a, .ref b, .int (p : Int), .ref l] ∧ WebAt a n wf H ∧ Sw n wf ∧ WebAt b m of H ∧ Sw m of ∧ p < n ∧ n - 1 + m ≤ 10 ∧ LotAt l ((List.range n).filter c) H ∧ RetV (.bl true) H Q
theorem sc_law_put_right : FnScope ["_law_web_here", "_law_other", "_law_place", "_law_lot_here", "_law_many", "_law_made", "_law_within", "_law_tied", "_law_sign", "_law_due", "_law_rest", "_law_x", "_law_changed"] ["_law_web_here", "_law_other", "_law_place", "_law_lot_here"] (defScope (top 57)) := ⟨rfl, rfl, rfl, by decide +kernel, rfl, by decide +kernel, by decide +kernel⟩
theorem ok_law_put_right (T : Top K mg) (C_put_in : Cal P w K mg base 5 "put_in" ["web", "place", "other_web"] sp_put_in) (C_are_alike : Cal P w K mg base 6 "are_alike" ["web", "other_web"] sp_are_alike) (C_law_turned : Cal P w K mg base 1 "_law_turned" ["_law_web_here", "_law_lot_here"] sp_law_turned) (C_law_sides : Cal P w K mg base 1 "_law_sides" ["_law_web_here"] sp_law_sides) (C_law_no_foe : Cal P w K mg base 1 "_law_no_foe" ["_law_web_here"] sp_law_no_foe) (C_law_balanced_right : Cal P w K mg base 6 "_law_balanced_right" ["_law_web_here"] sp_law_balanced_right) : Cal P w K mg base 7 "_law_put_right" ["_law_web_here", "_law_other", "_law_place", "_law_lot_here"] sp_law_put_right := by
  obtain ⟨f, fd, F, gF⟩ := T.d_law_put_right
  obtain ⟨tm, hmost⟩ := T.most
  refine ⟨⟨f, fd, ?_, gF, F.kp, F.bindsN fun _ _ _ _ _ _ us hl => match us, hl with | [_, _, _, _], _ => rfl⟩⟩
  refine F.ok sc_law_put_right (fun vs H Q E h => ?_) (fun cdv A outer s H vs Q E hr h => ?_)
  · repeat (first | (obtain ⟨rfl, _⟩ := h; rfl) | (obtain ⟨_, h⟩ := h))
  unfold sp_law_put_right at h
  refine (fun (z : ∃ t, PSs (cxOf CX0 P w K mg base ["_law_web_here", "_law_other", "_law_place", "_law_lot_here", "_law_many", "_law_made", "_law_within", "_law_tied", "_law_sign", "_law_due", "_law_rest", "_law_x", "_law_changed"] "_law_put_right" (defScope (top 57)) f cdv A outer s H E).nox (defBody (top 57)) t ∧ t { nx := fun _ H' => Q .non H', rt := Q } (L2.start ["_law_web_here", "_law_other", "_law_place", "_law_lot_here", "_law_many", "_law_made", "_law_within", "_law_tied", "_law_sign", "_law_due", "_law_rest", "_law_x", "_law_changed"] vs) H) => by
    obtain ⟨t, h1, h2⟩ := z
    exact ⟨t, h1.nox, h2⟩) ?_
  refine ⟨_, (pss_cons (ps_set (i := 4) sc_law_put_right.nd rfl (Or.inl rfl) (pe_callB (clen K) (by rfl) T.b_len (by decide +kernel) (pa_cons (pv 0) pa_nil)))
      (pss_cons (ps_set (i := 5) sc_law_put_right.nd rfl (Or.inl rfl) (C_put_in.pe hr (by rfl) (pa_cons (pv 0) (pa_cons (pv 2) (pa_cons (pv 1) pa_nil)))))
      (pss_cons (ps_set (i := 6) sc_law_put_right.nd rfl (Or.inl rfl) (pe_tupRg rfl (by rfl) T.b_tuple (prg_2 (by rfl) T.b_range (pe_op op_sub (pv 4) pe_int) (pe_op op_add (pe_op op_sub (pv 4) pe_int) (pe_callB (clen K) (by rfl) T.b_len (by decide +kernel) (pa_cons (pv 1) pa_nil))))))
      (pss_cons (ps_set (i := 7) sc_law_put_right.nd rfl (Or.inl rfl) (pe_cmpR (neD K hr.units) (pe_lc (own := [("_law_sign", 8)]) (g := (gName 8)) (by rfl) sc_law_put_right.nd (piT K (pe_ix (ixT K) (pv 0) (pv 2) (fun _ _ => rfl))) (blkOk_by (by kernel_rfl)) (fun _ _ _ _ _ => (pg_name (i := 8) sc_law_put_right.nd rfl (Or.inl rfl))) (fun _ _ _ _ _ => (pts_one (pt_cmpR op_ne (pv 8) pe_int (nomark _)))) (fun _ _ _ _ _ => (pv 8))) (pe_lst pa_nil) (nomark _)))
      (pss_cons (ps_set (i := 9) sc_law_put_right.nd rfl (Or.inl rfl) (pe_and (pe_cmpR op_notN (C_law_sides.pe hr (by rfl) (pa_cons (pv 0) pa_nil)) pe_non (nomark _)) (pe_one (pe_ifExp (pt_val (pv 7)) (C_law_no_foe.pe hr (by rfl) (pa_cons (pv 1) pa_nil)) (pe_cmpR op_notN (C_law_sides.pe hr (by rfl) (pa_cons (pv 1) pa_nil)) pe_non (nomark _))))))
      (pss_cons (ps_if (PW.pt (pw_or (pt_cmpR op_ne (pe_cmpR op_notN (C_law_sides.pe hr (by rfl) (pa_cons (pv 5) pa_nil)) pe_non (nomark _)) (pv 9) (nomark _)) (pw_or1 (pt_not (pt_val (C_law_balanced_right.pe hr (by rfl) (pa_cons (pv 5) pa_nil))))))) (pss_one (ps_ret pe_bl)) pss_nil)
      (pss_cons (ps_if (pt_cmpR (neD K hr.units) (C_put_in.pe hr (by rfl) (pa_cons (C_law_turned.pe hr (by rfl) (pa_cons (pv 0) (pa_cons (pe_tup (pa_cons (pv 2) pa_nil)) pa_nil))) (pa_cons (pv 2) (pa_cons (pv 1) pa_nil)))) (C_law_turned.pe hr (by rfl) (pa_cons (pv 5) (pa_cons (pv 6) pa_nil))) (nomark _)) (pss_one (ps_ret pe_bl)) pss_nil)
      (pss_cons (ps_set (i := 10) sc_law_put_right.nd rfl (Or.inl rfl) (pe_callTy (ctup K) (by rfl) T.b_tuple (by decide +kernel) (pa_cons (pe_lc (own := [("_law_x", 11)]) (g := (gName 11)) (by rfl) sc_law_put_right.nd (piT K (pv 3)) (blkOk_by (by kernel_rfl)) (fun _ _ _ _ _ => (pg_name (i := 11) sc_law_put_right.nd rfl (Or.inl rfl))) (fun _ _ _ _ _ => (pts_one (pt_cmpR op_ne (pv 11) (pv 2) (nomark _)))) (fun _ _ _ _ _ => (pe_op op_sub (pv 11) (pe_callTy call_int1 (by rfl) T.b_int (by decide +kernel) (pa_cons (pe_cmpR op_gt (pv 11) (pv 2) (nomark _)) pa_nil))))) pa_nil)))
      (pss_cons (ps_set (i := 12) sc_law_put_right.nd rfl (Or.inl rfl) (pe_callTy (ctup K) (by rfl) T.b_tuple (by decide +kernel) (pa_cons (pe_callB (csrt K) (by rfl) T.b_sorted (by decide +kernel) (pa_cons (pe_op (catA K) (pv 10) (pe_ifExp (pt_cmpR (inSq K) (pv 2) (pv 3) (by rfl)) (pv 6) (pe_tup pa_nil))) pa_nil)) pa_nil)))
      (pss_cons (ps_if (pt_cmpR (neD K hr.units) (C_put_in.pe hr (by rfl) (pa_cons (C_law_turned.pe hr (by rfl) (pa_cons (pv 0) (pa_cons (pv 3) pa_nil))) (pa_cons (pv 2) (pa_cons (pv 1) pa_nil)))) (C_law_turned.pe hr (by rfl) (pa_cons (pv 5) (pa_cons (pv 12) pa_nil))) (nomark _)) (pss_one (ps_ret pe_bl)) pss_nil)
      (pss_one (ps_ret (pe_cmpR op_isBl (C_are_alike.pe hr (by rfl) (pa_cons (pv 5) (pa_cons (C_put_in.pe hr (by rfl) (pa_cons (C_law_turned.pe hr (by rfl) (pa_cons (pv 0) (pa_cons (pv 3) pa_nil))) (pa_cons (pv 2) (pa_cons (pv 1) pa_nil)))) pa_nil))) pe_bl (nomark _)))))))))))))), ?_⟩
  obtain ⟨a, b, l, n, m, p, wf, of, c, rfl, hw, sw, ho, so, hp, hnm, hl, k⟩ := h
  have hn := sw.le
  have hm := so.le
  have hn1 := sw.pos
  have hm1 := so.pos
  have sput := sw.put so hp hnm
  refine q_asg (e_lenW hw (ev_var rfl)) fun H1 e1 => ?_
  refine q_asgP (R := IsW (n - 1 + m) (putW n p wf of)) (c_call (ea_cons (ev_var rfl) (ea_cons (ev_var rfl) (ea_cons (ev_var rfl) ea_nil))) fun H2 e2 Q1 q => ⟨a, b, n, m, p, wf, of, rfl, hw.m (e1.trans e2), sw, ho.m (e1.trans e2), so, hp, hnm, q⟩) ?_
  rintro _ H2 e2 ⟨d, rfl, hd⟩
  have e12 := e1.trans e2
  refine q_asgP (e_tupRg (lo := n - 1) (hi := n - 1 + m) (ev_is (e_sub (ev_var rfl) ev_c) (by congr 1; omega)) (ev_is (e_add (e_sub (ev_var rfl) ev_c) (e_lenW (ho.m e12) (ev_var rfl))) (by congr 1; omega)) ⟨by omega, by omega⟩) ?_
  rintro _ H3 e3 ⟨wi, rfl, hwi⟩
  rw [Nat.add_sub_cancel_left] at hwi
  have e13 := e12.trans e3
  have hd3 := hd.m e3
  have hw3 := hw.m e13
  have ho3 := ho.m e13
  obtain ⟨rs, g1, g2⟩ := id hw3
  refine q_asg (e_neD (EvN.dp ((EvN.of (lcD (f := fun y => !decide (wf p y = 0)) (c := fun y => V.int (wf p y)) (tn_tup (e_ixT (ev_var rfl) g1 (ev_var rfl) rfl (at_map hp)) (g2 p hp)) (by omega) (fun _ _ => rfl) (fun i hi => et_test (e_ne (ev_var rfl) ev_c)) fun i hi _ => ev_var rfl)).imp fun xs H' _ r => by rw [r]; exact dp_map (g := fun y => PyData.int (wf p y)) fun x _ => .int _)) dp_nil (Dk.list fun d hd => by
    obtain ⟨j, _, rfl⟩ := List.mem_map.mp hd
    exact Dk.int _) Dk.nil (by decide)) fun H4 e4 => ?_
  rw [eqv_nil]
  have ht : (!((List.range n).filter fun y => !decide (wf p y = 0)).isEmpty) = true ↔ ∃ y, y < n ∧ wf p y ≠ 0 := by
    rw [Bool.not_eq_true', ← Bool.not_eq_true, List.isEmpty_iff, List.filter_eq_nil_iff]
    constructor
    · intro h
      apply Classical.byContradiction
      intro q
      refine h fun y hy z => q ⟨y, List.mem_range.mp hy, fun e => ?_⟩
      rw [decide_eq_true e] at z
      cases z
    · rintro ⟨y, hy, hz⟩ h
      refine h y (List.mem_range.mpr hy) ?_
      rw [decide_eq_false hz]; rfl
  generalize (!((List.range n).filter fun y => !decide (wf p y = 0)).isEmpty) = tied at ht
  have e14 := e13.trans e4
  refine q_asgP (eb_and (eb_sides (ev_var rfl) (hw.m e14) sw) (eb_if (et_test (ev_var rfl)) (eb_nofoe (ev_var rfl) (ho.m e14) hm) (eb_sides (ev_var rfl) (ho.m e14) so))) ?_
  rintro _ H5 e5 ⟨due, rfl, hdue⟩
  have e15 := e14.trans e5
  have hd5 := hd3.m (e4.trans e5)
  refine q_skip (et_or (a := false) (b := false) (et_neB (eb_sides (ev_var rfl) hd5 sput) (ev_var rfl) (hdue.trans (bal_put sw so hp ht).symm)) fun _ => et_not (a := true) (et_B (c_callV (ea_cons (ev_var rfl) ea_nil) fun H6 e6 Q1 q => ⟨d, _, _, rfl, hd5.m e6, sput, q⟩))) fun H6 e6 => ?_
  have e16 := e15.trans e6
  have hd6 := hd5.m e6
  have hw6 := hw.m e16
  have ho6 := ho.m e16
  have hwi6 := ((e4.trans e5).trans e6) _ _ hwi
  have turn_put : ∀ (L M : List Nat), (∀ x, x < n - 1 + m → (if x < n - 1 then decide (skp p x ∈ L) else decide (p ∈ L)) = decide (x ∈ M)) → ∀ x y, x < n - 1 + m → y < n - 1 + m → putW n p (turnW wf L) of x y = turnW (putW n p wf of) M x y := fun L M h => turn_eq (put_turn (turnW_by n wf L) hp) h
  have dmem : ∀ {x y : Nat} {L M : List Nat}, (x ∈ L ↔ y ∈ M) → decide (x ∈ L) = decide (y ∈ M) := fun {x y L M} h => by
    by_cases q : x ∈ L
    · rw [decide_eq_true q, decide_eq_true (h.mp q)]
    · rw [decide_eq_false q, decide_eq_false fun z => q (h.mpr z)]
  refine q_skip (et_test (e_neW (n := n - 1 + m) (w := putW n p (turnW wf [p]) of) (w' := turnW (putW n p wf of) ((List.range m).map fun i => n - 1 + i))
    (c_call3P (Ra := IsW n (turnW wf [p])) (c_call2P (ev_var rfl) (e_tup1 (ev_var rfl)) fun v H7 e7 ⟨t, ev, hT⟩ Q1 q => ⟨a, t, n, wf, [p], by rw [ev], hw6.m e7, hn, hT, q⟩) IsW.mo (ev_var rfl) (ev_var rfl) fun v H7 e7 ⟨t, ev, hT⟩ Q1 q => ⟨t, b, n, m, p, _, of, by rw [ev], hT, sw.turn _, ho6.m e7, so, hp, hnm, q⟩)
    (c_call (ea_cons (ev_var rfl) (ea_cons (ev_var rfl) ea_nil)) fun H7 e7 Q1 q => ⟨d, wi, _, _, _, rfl, hd6.m e7, hnm, e7 _ _ hwi6, q⟩)
    (turn_put _ _ fun x hx => ?_))) fun H7 e7 => ?_
  · by_cases cx : x < n - 1
    · have hs := skp_lt hp cx
      rw [if_pos cx, decide_eq_false (by simp; exact hs.2), decide_eq_false (by rw [mem_run]; omega)]
    · rw [if_neg cx, decide_eq_true (by simp), decide_eq_true (by rw [mem_run]; omega)]
  have hl7 := (e16.trans e7) _ _ hl
  have hL : ∀ y, y ∈ (List.range n).filter c → y < n := fun y hy => List.mem_range.mp (List.mem_filter.mp hy).1
  have hlen := len_filter n c
  generalize (List.range n).filter c = L at hl7 hL hlen
  have hl7' := hl7
  unfold LotAt at hl7'
  rw [as_range L 0] at hl7'
  refine q_asgP (R := IsT (((L.filter fun x => !decide (x = p)).map (usk p)).map fun (x : Nat) => V.int (x : Int))) ((EvP.isT (e_tupN (EvN.of (lcD (n := L.length) (f := fun i => !decide (L.getD i 0 = p)) (c := fun i => V.int (usk p (L.getD i 0) : Int)) (tn_tup (ev_var rfl) hl7') (by omega) (fun _ _ => rfl) (fun i hi => et_test (ev_is (e_ne (ev_var rfl) (ev_var rfl)) ?_)) fun i hi hf => ev_is (e_sub (ev_var rfl) (e_intB (e_gt (ev_var rfl) (ev_var rfl)))) ?_)) m_eq)).imp fun v H8 _ r => by rw [pick_list L 0 (fun x => !decide (x = p)) fun x => V.int (usk p x : Int)] at r; rw [List.map_map]; exact r) ?_
  · have h : ((L.getD i 0 : Nat) : Int) = (p : Int) ↔ L.getD i 0 = p := by omega
    by_cases q : L.getD i 0 = p
    · rw [decide_eq_true q, decide_eq_true (h.mpr q)]
    · rw [decide_eq_false q, decide_eq_false fun z => q (h.mp z)]
  · have hne : L.getD i 0 ≠ p := fun z => by rw [decide_eq_true z] at hf; cases hf
    congr 1
    unfold usk
    by_cases q : L.getD i 0 < p
    · rw [if_pos q, decide_eq_false (by omega)]
      simp
    · rw [if_neg q, decide_eq_true (by omega), if_pos rfl]
      omega
  rintro _ H8 e8 ⟨rst, rfl, hrst⟩
  have e78 := e7.trans e8
  have hl8 : LotAt l L H8 := e8 _ _ hl7
  have hwi8 := e78 _ _ hwi6
  have lenF : (L.filter fun x => !decide (x = p)).length ≤ L.length := List.length_filter_le _ _
  refine q_asgP (R := fun v H' => ∃ t l', v = .ref t ∧ LotAt t l' H' ∧ ∀ x, x ∈ l' ↔ x ∈ (L.filter fun x => !decide (x = p)).map (usk p) ++ if decide (p ∈ L) = true then (List.range m).map (fun i => n - 1 + i) else [])
    ((e_tupN (n_sortT (l := ((L.filter fun x => !decide (x = p)).map (usk p) ++ if decide (p ∈ L) = true then (List.range m).map (fun i => n - 1 + i) else []).map fun (x : Nat) => (x : Int))
      ((e_catA (xs := ((L.filter fun x => !decide (x = p)).map (usk p)).map fun (x : Nat) => V.int (x : Int)) (ys := (if decide (p ∈ L) = true then (List.range m).map (fun i => n - 1 + i) else []).map fun (x : Nat) => V.int (x : Int)) (EvP.tup (ev_var rfl) hrst)
        (e_ifP (et_test (e_inN (ev_var rfl) (ev_var rfl) hl8)) (fun hb => by rw [if_pos hb]; exact EvP.tup (ev_var rfl) hwi8) fun hb => by
          rw [if_neg (by rw [hb]; exact Bool.false_ne_true)]
          exact fun H9 e9 Q9 q9 => eu_tup (vs := []) ea_nil (by simp) H9 e9 _ fun t H10 _ e10 h10 => q9 _ H10 e10 ⟨t, rfl, h10⟩) ?_).imp fun v H9 _ r => by rw [← List.map_append, lot_ints] at r; exact r) ?_) fun _ _ _ _ h => h).imp fun v H9 _ ⟨t, xs, ev, h9, ns, hperm, ex⟩ => by
          obtain ⟨l', e1, e2⟩ := lot_perm hperm
          refine ⟨t, l', ev, ?_, e2⟩
          unfold LotAt
          rw [h9, ex, e1, lot_ints]) ?_
  · rw [List.length_map, List.length_map, List.length_map]
    split
    · rw [List.length_map, List.length_range]; omega
    · simp; omega
  · rw [List.length_map, List.length_append, List.length_map]
    split
    · rw [List.length_map, List.length_range]; omega
    · simp; omega
  rintro _ H9 e9 ⟨ch, L', rfl, hch, hmem⟩
  have e79 := e78.trans e9
  have hd9 := hd6.m e79
  have hw9 := hw6.m e79
  have ho9 := ho6.m e79
  have hl9 : LotAt l L H9 := e9 _ _ hl8
  have made : ∀ H10, Ex H9 H10 → EvP (tCall sp_put_in [] E0 (tCons (tCall sp_law_turned [] E0 (tCons (tVar 0) (tCons (tVar 3) tNil))) (tCons (tVar 2) (tCons (tVar 1) tNil)))) [some (.ref a), some (.ref b), some (.int (p : Int)), some (.ref l), some (.int (n : Int)), some (.ref d), some (.ref wi), some (.bl tied), none, some (.bl due), some (.ref rst), none, some (.ref ch)] H10 (IsW (n - 1 + m) (putW n p (turnW wf L) of)) := fun H10 e10 =>
    c_call3P (Ra := IsW n (turnW wf L)) (c_call (ea_cons (ev_var rfl) (ea_cons (ev_var rfl) ea_nil)) fun H7 e7 Q1 q => ⟨a, l, n, wf, L, rfl, hw9.m (e10.trans e7), hn, (e10.trans e7) _ _ hl9, q⟩) IsW.mo (ev_var rfl) (ev_var rfl) fun v H7 e7 ⟨t, ev, hT⟩ Q1 q => ⟨t, b, n, m, p, _, of, by rw [ev], hT, sw.turn _, ho9.m (e10.trans e7), so, hp, hnm, q⟩
  refine q_skip (et_test (e_neW (n := n - 1 + m) (w := putW n p (turnW wf L) of) (w' := turnW (putW n p wf of) L') (made H9 (Ex.refl _))
    (c_call (ea_cons (ev_var rfl) (ea_cons (ev_var rfl) ea_nil)) fun H7 e7 Q1 q => ⟨d, ch, _, _, _, rfl, hd9.m e7, hnm, e7 _ _ hch, q⟩)
    (turn_put _ _ fun x hx => ?_))) fun H10 e10 => ?_
  · have hx2 := hmem x
    rw [List.mem_append, List.mem_map] at hx2
    by_cases cx : x < n - 1
    · rw [if_pos cx]
      refine dmem ?_
      rw [hx2]
      constructor
      · intro q
        exact .inl ⟨skp p x, List.mem_filter.mpr ⟨q, by rw [decide_eq_false (skp_lt hp cx).2]; rfl⟩, usk_skp⟩
      · rintro (⟨y, hy, e⟩ | q)
        · obtain ⟨q1, q2⟩ := List.mem_filter.mp hy
          have hyp : y ≠ p := fun z => by rw [decide_eq_true z] at q2; cases q2
          rw [← e, skp_usk hyp]
          exact q1
        · split at q
          · rw [mem_run] at q; omega
          · cases q
    · rw [if_neg cx]
      refine dmem ?_
      rw [hx2]
      constructor
      · intro q
        right
        rw [if_pos (decide_eq_true q), mem_run]
        omega
      · rintro (⟨y, hy, e⟩ | q)
        · obtain ⟨q1, q2⟩ := List.mem_filter.mp hy
          have hyp : y ≠ p := fun z => by rw [decide_eq_true z] at q2; cases q2
          have := usk_lt hp (hL y q1) hyp
          omega
        · split at q
          · rename_i h; exact of_decide_eq_true h
          · cases q
  · have hd10 := hd9.m e10
    refine s_ret (ev_is (e_isB (a := true) (EvP.ev (R := fun v _ => v = .bl true) (c_call2P (ev_var rfl) (made H10 e10) fun v H11 e11 ⟨t, ev, hT⟩ Q1 q => ⟨d, t, _, _, _, by rw [ev], hd10.m e11, sput, hT, (sw.turn L).put so hp hnm, (put_turn (turnW_by n wf L) hp).alike, fun H12 e12 => q _ H12 e12 rfl⟩) fun v H' _ r => r) ev_c) rfl) fun H11 e11 => k H11 ((e16.trans (e79.trans e10)).trans e11)
end
end Sg
set_option maxHeartbeats 4000000
namespace Sg
open PySem PySem.Spec PyProof.Rows L2 Evl
local macro_rules | `(tactic| walk_at "ev") => `(tactic| first
  | exact ev_c
  | exact ev_var rfl
  | assumption
  | refine e_neg (by walk_at "ev")
  | refine e_add (by walk_at "ev") (by walk_at "ev")
  | refine e_sub (by walk_at "ev") (by walk_at "ev")
  | refine e_web (by assumption) (by walk_at "ev") (by walk_at "ev") (by walk_at "ev") rfl rfl (by omega) (by omega)
  | refine e_lenW (by assumption) (by walk_at "ev")
  | refine e_eq (by walk_at "ev") (by walk_at "ev")
  | refine e_ne (by walk_at "ev") (by walk_at "ev")
  | refine e_lt (by walk_at "ev") (by walk_at "ev")
  | refine e_le (by walk_at "ev") (by walk_at "ev")
  | refine e_gt (by walk_at "ev") (by walk_at "ev")
  | refine e_ge (by walk_at "ev") (by walk_at "ev")
  | refine e_isN (by walk_at "ev")
  | refine e_notN (by walk_at "ev"))
def EvMT (wl : Addr) (t : TT) (σ : L2.St) (H : Hp) (p : Prop) : Prop := ∀ H1, Ex H H1 → ∀ Q : Bool → Hp → Prop, (∀ b H2, Exw wl H1 H2 → Wl wl H2 → (b = true → p) → Q b H2) → t σ H1 Q
def EvMF (wl : Addr) (t : TT) (σ : L2.St) (H : Hp) : Prop := ∀ H1, Ex H H1 → ∀ Q : Bool → Hp → Prop, (∀ H2, Exw wl H1 H2 → Wl wl H2 → Q false H2) → t σ H1 Q
section
variable {wl : Addr} {σ : L2.St} {H : Hp} {ta tb tc td te : TE} {t u : TT} {R Rd : V → Hp → Prop} {x y z : V} {D : Ends} {tu tz : TS} {M : L2.St → Hp → Prop} {p : Prop}
theorem mt_and {b : Bool} (W : Wl wl H) (h1 : EvT t σ H b) (h2 : EvM wl te σ H (fun v _ => ∃ b, v = .bl b)) : EvMT wl (tAnd t (tTest te)) σ H (b = true) := fun H1 e Q q =>
  h1 H1 e _ fun H2 e2 => by
    cases b with
    | true => exact h2 H2 (e.trans e2) _ fun v H3 e3 w3 ⟨c, ev⟩ => ⟨c, ev, q c H3 ((Exw.of e2).trans e3) w3 fun _ => rfl⟩
    | false => exact q false H2 (Exw.of e2) (W.ext (e.trans e2)) fun z => by cases z
theorem s_asgM {i : Nat} (h : EvM wl te σ H R) (k : ∀ v H1, Exw wl H H1 → Wl wl H1 → R v H1 → D.nx (σ.set i (some v)) H1) : tAsg te (gName i) D σ H := h H (Ex.refl H) _ fun v H1 e w r => k v H1 e w r
theorem q_whenM (h : EvMT wl t σ H p) (rest : ∀ σ' H', M σ' H' → tz D σ' H') (h1 : p → ∀ H1, Exw wl H H1 → Wl wl H1 → (∀ σ' H', M σ' H' → tz D σ' H') → tu { D with nx := tz D } σ H1) (h2 : ∀ H1, Exw wl H H1 → Wl wl H1 → M σ H1) : tSeq (tIfS t tu tNext) tz D σ H :=
  h H (Ex.refl H) _ fun b H1 e w hp => by
    cases b with
    | true =>
      refine iteT ?_
      exact h1 (hp rfl) H1 e w rest
    | false =>
      refine iteF ?_
      exact rest _ _ (h2 H1 e w)
theorem mf_not (h : EvM wl te σ H (fun v _ => v = .bl true)) : EvMF wl (tNot (tB te)) σ H := fun H1 e Q q => h H1 e _ fun v H2 e2 w2 ev => ⟨true, ev, q H2 e2 w2⟩
theorem mf_or (h1 : EvMF wl t σ H) (h2 : ∀ H1, Exw wl H H1 → Wl wl H1 → EvMF wl u σ H1) : EvMF wl (tOr t u) σ H := fun H1 e Q q => h1 H1 e _ fun H2 e2 w2 => by
  show u σ H2 Q
  exact h2 H2 ((Exw.of e).trans e2) w2 H2 (Ex.refl _) Q fun H3 e3 w3 => q H3 (e2.trans e3) w3
theorem s_skipM (h : EvMF wl t σ H) (k : ∀ H1, Exw wl H H1 → Wl wl H1 → D.nx σ H1) : tIfS t tu tNext D σ H := h H (Ex.refl H) _ fun H1 e w => by
  refine iteF ?_
  exact k H1 e w
theorem m_call4 {sp : Sp} {E : XK} (ha : Ev ta σ H x) (hb : Ev tb σ H y) (hc : Ev tc σ H z) (hd : EvM wl td σ H Rd) (hs : ∀ v H1, Exw wl H H1 → Wl wl H1 → Rd v H1 → ∀ Q : VK, (∀ v H2, Exw wl H1 H2 → Wl wl H2 → R v H2 → Q v H2) → sp [x, y, z, v] H1 Q E) : EvM wl (tCall sp [] E (tCons ta (tCons tb (tCons tc (tCons td tNil))))) σ H R := fun H1 e Q q =>
  ha H1 e _ fun H2 e2 => hb H2 (e.trans e2) _ fun H3 e3 => hc H3 ((e.trans e2).trans e3) _ fun H4 e4 => hd H4 (((e.trans e2).trans e3).trans e4) _ fun v H5 e5 w5 r => hs v H5 ((Exw.of (((e.trans e2).trans e3).trans e4)).trans e5) w5 r Q fun u H6 e6 w6 r6 => q u H6 (((Exw.of ((e2.trans e3).trans e4)).trans e5).trans e6) w6 r6
end
section
variable {P : Program} {w : World} {K : PySem.W.Frag} {mg : Str → Option Value} {base : Heap}
def sp_law_all_right : Sp := fun vs H Q _ => ∃ (a b : Addr) (n m : Nat) (wf of : Wf), vs = [.ref a, .ref b] ∧ WebAt a n wf H ∧ Sw n wf ∧ WebAt b m of H ∧ Sw m of ∧ n + m ≤ 10 ∧ RetV (.bl true) H Q
theorem sc_law_all_right : FnScope ["_law_web_here", "_law_other", "_law_many", "_law_behind", "_law_one", "_law_less", "_law_due", "_law_made"] ["_law_web_here", "_law_other"] (defScope (top 58)) := ⟨rfl, rfl, rfl, by decide +kernel, rfl, by decide +kernel, by decide +kernel⟩
theorem ok_law_all_right (T : Top K mg) (C_joined_all : Cal P w K mg base 5 "joined_all" ["web", "other_web", "sign"] sp_joined_all) (C_are_alike : Cal P w K mg base 6 "are_alike" ["web", "other_web"] sp_are_alike) (C_trouble : Cal P w K mg base 5 "trouble" ["web"] sp_trouble) (C_law_turned : Cal P w K mg base 1 "_law_turned" ["_law_web_here", "_law_lot_here"] sp_law_turned) (C_law_sides : Cal P w K mg base 1 "_law_sides" ["_law_web_here"] sp_law_sides) (C_law_trouble : Cal P w K mg base 1 "_law_trouble" ["_law_web_here"] sp_law_trouble) (C_law_no_foe : Cal P w K mg base 1 "_law_no_foe" ["_law_web_here"] sp_law_no_foe) (C_law_balanced_right : Cal P w K mg base 6 "_law_balanced_right" ["_law_web_here"] sp_law_balanced_right) : Cal P w K mg base 7 "_law_all_right" ["_law_web_here", "_law_other"] sp_law_all_right := by
  obtain ⟨f, fd, F, gF⟩ := T.d_law_all_right
  obtain ⟨tm, hmost⟩ := T.most
  refine ⟨⟨f, fd, ?_, gF, F.kp, F.bindsN fun _ _ _ _ _ _ us hl => match us, hl with | [_, _], _ => rfl⟩⟩
  refine F.ok sc_law_all_right (fun vs H Q E h => ?_) (fun cdv A outer s H vs Q E hr h => ?_)
  · repeat (first | (obtain ⟨rfl, _⟩ := h; rfl) | (obtain ⟨_, h⟩ := h))
  unfold sp_law_all_right at h
  refine (fun (z : ∃ t, PSs (cxOf CX0 P w K mg base ["_law_web_here", "_law_other", "_law_many", "_law_behind", "_law_one", "_law_less", "_law_due", "_law_made"] "_law_all_right" (defScope (top 58)) f cdv A outer s H E).nox (defBody (top 58)) t ∧ t { nx := fun _ H' => Q .non H', rt := Q } (L2.start ["_law_web_here", "_law_other", "_law_many", "_law_behind", "_law_one", "_law_less", "_law_due", "_law_made"] vs) H) => by
    obtain ⟨t, h1, h2⟩ := z
    exact ⟨t, h1.nox, h2⟩) ?_
  refine ⟨_, (pss_cons (ps_set (i := 2) sc_law_all_right.nd rfl (Or.inl rfl) (pe_callB (clen K) (by rfl) T.b_len (by decide +kernel) (pa_cons (pv 0) pa_nil)))
      (pss_cons (ps_set (i := 3) sc_law_all_right.nd rfl (Or.inl rfl) (pe_tupRg rfl (by rfl) T.b_tuple (prg_2 (by rfl) T.b_range (pv 2) (pe_op op_add (pv 2) (pe_callB (clen K) (by rfl) T.b_len (by decide +kernel) (pa_cons (pv 1) pa_nil))))))
      (pss_cons (ps_set (i := 4) sc_law_all_right.nd rfl (Or.inl rfl) (C_joined_all.pe hr (by rfl) (pa_cons (pv 0) (pa_cons (pv 1) (pa_cons pe_int pa_nil)))))
      (pss_cons (ps_set (i := 5) sc_law_all_right.nd rfl (Or.inl rfl) (C_joined_all.pe hr (by rfl) (pa_cons (pv 0) (pa_cons (pv 1) (pa_cons (pe_un un_neg pe_int) pa_nil)))))
      (pss_cons (ps_if (PW.pt (pw_or (pt_cmpR (neD K hr.units) (pv 5) (C_law_turned.pe hr (by rfl) (pa_cons (pv 4) (pa_cons (pv 3) pa_nil))) (nomark _)) (pw_or1 (pt_cmpR op_notBl (C_are_alike.pe hr (by rfl) (pa_cons (pv 4) (pa_cons (pv 5) pa_nil))) pe_bl (nomark _))))) (pss_one (ps_ret pe_bl)) pss_nil)
      (pss_cons (ps_set (i := 6) sc_law_all_right.nd rfl (Or.inl rfl) (pe_and (C_law_no_foe.pe hr (by rfl) (pa_cons (pv 0) pa_nil)) (pe_one (C_law_no_foe.pe hr (by rfl) (pa_cons (pv 1) pa_nil)))))
      (pss_cons (ps_for PassesOwn.never rfl (piL K (pe_lst (pa_cons (pv 4) (pa_cons (pv 5) pa_nil)))) (pg_name (i := 7) sc_law_all_right.nd rfl (Or.inl rfl)) (pss_one (ps_if (PW.pt (pw_or (pt_cmpR op_ne (pe_cmpR op_notN (C_law_sides.pe hr (by rfl) (pa_cons (pv 7) pa_nil)) pe_non (nomark _)) (pv 6) (nomark _)) (pw_or1 (pt_not (pt_val (C_law_balanced_right.pe hr (by rfl) (pa_cons (pv 7) pa_nil))))))) (pss_one (ps_ret pe_bl)) pss_nil)))
      (pss_one (ps_ret (pe_and (pe_cmpR op_eq (C_trouble.pe hr (by rfl) (pa_cons (pv 4) pa_nil)) (C_law_trouble.pe hr (by rfl) (pa_cons (pv 5) pa_nil)) (nomark _)) (pe_one (pe_cmpR op_eq (C_trouble.pe hr (by rfl) (pa_cons (pv 5) pa_nil)) (C_law_trouble.pe hr (by rfl) (pa_cons (pv 5) pa_nil)) (nomark _))))))))))))), ?_⟩
  obtain ⟨a, b, n, m, wf, of, rfl, hw, sw, ho, so, hnm, k⟩ := h
  have hn := sw.le
  have hm := so.le
  have hn1 := sw.pos
  have hm1 := so.pos
  have s1 := sw.join so (.inl rfl : (1 : Int) = 1 ∨ (1 : Int) = -1) hnm
  have s2 := sw.join so (.inr rfl : (-1 : Int) = 1 ∨ (-1 : Int) = -1) hnm
  have tb : TurnBy (n + m) (joinW n wf of 1) (joinW n wf of (-1)) fun x => decide (n ≤ x) := join_turn
  refine q_asg (e_lenW hw (ev_var rfl)) fun H1 e1 => ?_
  refine q_asgP (e_tupRg (lo := n) (hi := n + m) (ev_var rfl) (ev_is (e_add (ev_var rfl) (e_lenW (ho.m e1) (ev_var rfl))) (by congr 1)) ⟨by omega, by omega⟩) ?_
  rintro _ H2 e2 ⟨be, rfl, hbe⟩
  rw [Nat.add_sub_cancel_left] at hbe
  have e12 := e1.trans e2
  refine q_asgP (R := IsW (n + m) (joinW n wf of 1)) (c_call (ea_cons (ev_var rfl) (ea_cons (ev_var rfl) (ea_cons ev_c ea_nil))) fun H3 e3 Q1 q => ⟨a, b, n, m, wf, of, 1, rfl, hw.m (e12.trans e3), sw, ho.m (e12.trans e3), so, .inl rfl, hnm, q⟩) ?_
  rintro _ H3 e3 ⟨d, rfl, hd⟩
  have e13 := e12.trans e3
  refine q_asgP (R := IsW (n + m) (joinW n wf of (-1))) (c_call (ea_cons (ev_var rfl) (ea_cons (ev_var rfl) (ea_cons (e_neg ev_c) ea_nil))) fun H4 e4 Q1 q => ⟨a, b, n, m, wf, of, -1, rfl, hw.m (e13.trans e4), sw, ho.m (e13.trans e4), so, .inr rfl, hnm, q⟩) ?_
  rintro _ H4 e4 ⟨g, rfl, hg⟩
  have e14 := e13.trans e4
  have hd4 := hd.m e4
  have hbe4 := (e3.trans e4) _ _ hbe
  refine q_skip (et_or (a := false) (b := false) (et_test (e_neW (n := n + m) (w := joinW n wf of (-1)) (w' := turnW (joinW n wf of 1) ((List.range m).map fun i => n + i)) (fun H5 e5 Q5 q5 => ev_var rfl H5 e5 Q5 fun H6 e6 => q5 _ H6 e6 ⟨g, rfl, hg.m (e5.trans e6)⟩)
    (c_call (ea_cons (ev_var rfl) (ea_cons (ev_var rfl) ea_nil)) fun H5 e5 Q1 q => ⟨d, be, _, _, _, rfl, hd4.m e5, hnm, e5 _ _ hbe4, q⟩) (turn_eq tb fun x hx => ?_)))
    fun _ => et_test (ev_is (e_notB (a := true) (c_callV (ea_cons (ev_var rfl) (ea_cons (ev_var rfl) ea_nil)) fun H5 e5 Q1 q => ⟨d, g, _, _, _, rfl, hd4.m e5, s1, hg.m e5, s2, tb.alike, q⟩) ev_c) rfl)) fun H5 e5 => ?_
  · by_cases q : n ≤ x
    · rw [decide_eq_true q, decide_eq_true (by rw [mem_run]; omega)]
    · rw [decide_eq_false q, decide_eq_false (by rw [mem_run]; omega)]
  have e15 := e14.trans e5
  refine q_asgP (eb_and (eb_nofoe (ev_var rfl) (hw.m e15) hn) (eb_nofoe (ev_var rfl) (ho.m e15) hm)) ?_
  rintro _ H6 e6 ⟨due, rfl, hdue⟩
  have e16 := e15.trans e6
  have e46 := e5.trans e6
  refine q_forNLn (el_lst (ea_cons (ev_var rfl) (ea_cons (ev_var rfl) ea_nil)) (by simp)) (fun pl i σ' H' => ∃ o7, σ' = [some (.ref a), some (.ref b), some (.int (n : Int)), some (.ref be), some (.ref d), some (.ref g), some (.bl due), o7] ∧ Ex H6 H' ∧ H' pl = some (.lst [.ref d, .ref g])) ?_ ?_ ?_ ?_
  · exact fun pl H7 hpl e7 h7 => ⟨none, rfl, e7, h7⟩
  · exact fun pl i σ' H' _ ⟨_, _, _, h⟩ => sq_of h
  · rintro pl i x σ' H7 hx ⟨o7, rfl, e7, h7⟩
    obtain ⟨s, y, rfl, hs, hy⟩ : ∃ (s : Int) (y : Addr), x = .ref y ∧ (s = 1 ∨ s = -1) ∧ WebAt y (n + m) (joinW n wf of s) H7 := by
      match i, hx with
      | 0, hx => cases hx; exact ⟨1, d, rfl, .inl rfl, hd4.m (e46.trans e7)⟩
      | 1, hx => cases hx; exact ⟨-1, g, rfl, .inr rfl, hg.m (e46.trans e7)⟩
      | i + 2, hx => cases hx
    have sy := sw.join so hs hnm
    exact s_skip (et_or (a := false) (b := false) (et_neB (eb_sides (ev_var rfl) hy sy) (ev_var rfl) (hdue.trans (bal_join sw so hs).symm)) fun _ => et_not (a := true) (et_B (c_callV (ea_cons (ev_var rfl) ea_nil) fun H8 e8 Q1 q => ⟨y, _, _, rfl, hy.m e8, sy, q⟩))) fun H8 e8 => ⟨_, rfl, e7.trans e8, e8 _ _ h7⟩
  · rintro pl σ' H7 ⟨o7, rfl, e7, _⟩
    have hd7 := hd4.m (e46.trans e7)
    have hg7 := hg.m (e46.trans e7)
    have t1 : ∀ {E : XK} {i : Nat}, ([some (.ref a), some (.ref b), some (.int (n : Int)), some (.ref be), some (.ref d), some (.ref g), some (.bl due), o7] : L2.St)[i]? = some (some (.ref d)) → EvP (tCall sp_trouble [] E (tCons (tVar i) tNil)) [some (.ref a), some (.ref b), some (.int (n : Int)), some (.ref be), some (.ref d), some (.ref g), some (.bl due), o7] H7 (fun v _ => ∃ z, v = .int z ∧ TroubleIs (n + m) (joinW n wf of 1) z) := fun h => c_call (ea_cons (ev_var h) ea_nil) fun H8 e8 Q1 q => ⟨d, _, _, rfl, hd7.m e8, s1, q⟩
    have t2 : ∀ {E : XK} {i : Nat}, ([some (.ref a), some (.ref b), some (.int (n : Int)), some (.ref be), some (.ref d), some (.ref g), some (.bl due), o7] : L2.St)[i]? = some (some (.ref g)) → EvP (tCall sp_trouble [] E (tCons (tVar i) tNil)) [some (.ref a), some (.ref b), some (.int (n : Int)), some (.ref be), some (.ref d), some (.ref g), some (.bl due), o7] H7 (fun v _ => ∃ z, v = .int z ∧ TroubleIs (n + m) (joinW n wf of (-1)) z) := fun h => c_call (ea_cons (ev_var h) ea_nil) fun H8 e8 Q1 q => ⟨g, _, _, rfl, hg7.m e8, s2, q⟩
    have t3 : ∀ {E : XK} {i : Nat}, ([some (.ref a), some (.ref b), some (.int (n : Int)), some (.ref be), some (.ref d), some (.ref g), some (.bl due), o7] : L2.St)[i]? = some (some (.ref g)) → EvP (tCall sp_law_trouble [] E (tCons (tVar i) tNil)) [some (.ref a), some (.ref b), some (.int (n : Int)), some (.ref be), some (.ref d), some (.ref g), some (.bl due), o7] H7 (fun v _ => ∃ z, v = .int z ∧ TroubleIs (n + m) (joinW n wf of (-1)) z) := fun h => c_call (ea_cons (ev_var h) ea_nil) fun H8 e8 Q1 q => ⟨g, _, _, rfl, hg7.m e8, s2, q⟩
    refine s_ret (ev_andV (a := true) (b := true) (e_eqM (t1 rfl) (t3 rfl) fun x y hx hy => hx.uniq (hy.turned s1.W tb)) fun _ => e_eqM (t2 rfl) (t3 rfl) fun x y hx hy => hx.uniq hy) fun H8 e8 => k H8 ((e16.trans e7).trans e8)
def sp_law (K : PySem.W.Frag) : Sp := fun vs H Q _ => ∃ (a : Addr) (ns : List Int), vs = [.ref a] ∧ SqL K H a (ns.map V.int) ∧ ns.length ≤ 63 ∧ (∀ z ∈ ns, Builtin.Int.intBits z ≤ 1048576) ∧ ∀ H2, Q (.bl true) H2
theorem sc_law : FnScope ["_law_script", "_law_well_here", "_law_turn", "_law_web_here", "_law_other", "_law_place", "_law_alone", "_law_x", "_law_sign"] ["_law_script"] (defScope (top 59)) := ⟨rfl, rfl, rfl, by decide +kernel, rfl, by decide +kernel, by decide +kernel⟩
theorem okf_law (T : Top K mg) {f : Addr} {fd : FuncData} (F : FunD K "law" "law" (defArgs (top 59)) (defBody (top 59)) (defScope (top 59)) [] [] f fd) (C_law_well : Cal P w K mg base 1 "_law_well" ["_law_script"] (sp_law_well K)) (C_law_dip : Cal P w K mg base 1 "_law_dip" ["_law_well_here", "_law_many"] sp_law_dip) (C_law_lot : Cal P w K mg base 2 "_law_lot" ["_law_well_here", "_law_many"] sp_law_lot) (C_law_some_web : Cal P w K mg base 3 "_law_some_web" ["_law_well_here", "_law_most"] sp_law_some_web) (C_law_put_right : Cal P w K mg base 7 "_law_put_right" ["_law_web_here", "_law_other", "_law_place", "_law_lot_here"] sp_law_put_right) (C_law_all_right : Cal P w K mg base 7 "_law_all_right" ["_law_web_here", "_law_other"] sp_law_all_right) : FnOk P w K mg base CX0 8 f fd ["_law_script"] (sp_law K) := by
  obtain ⟨tm, hmost⟩ := T.most
  refine F.ok sc_law (fun vs H Q E h => ?_) (fun cdv A outer s H vs Q E hr h => ?_)
  · repeat (first | (obtain ⟨rfl, _⟩ := h; rfl) | (obtain ⟨_, h⟩ := h))
  unfold sp_law at h
  refine (fun (z : ∃ t, PSs (cxOf CX0 P w K mg base ["_law_script", "_law_well_here", "_law_turn", "_law_web_here", "_law_other", "_law_place", "_law_alone", "_law_x", "_law_sign"] "law" (defScope (top 59)) f cdv A outer s H E).nox (defBody (top 59)) t ∧ t { nx := fun _ H' => Q .non H', rt := Q } (L2.start ["_law_script", "_law_well_here", "_law_turn", "_law_web_here", "_law_other", "_law_place", "_law_alone", "_law_x", "_law_sign"] vs) H) => by
    obtain ⟨t, h1, h2⟩ := z
    exact ⟨t, h1.nox, h2⟩) ?_
  refine ⟨_, (pss_cons (ps_set (i := 1) sc_law.nd rfl (Or.inl rfl) (C_law_well.pe hr (by rfl) (pa_cons (pv 0) pa_nil)))
      (pss_cons (ps_for PassesOwn.never rfl (pi_range1 (by rfl) T.b_range (pa_cons pe_int pa_nil)) (pg_name (i := 2) sc_law.nd rfl (Or.inl rfl)) (pss_cons (ps_set (i := 3) sc_law.nd rfl (Or.inr rfl) (C_law_some_web.pe hr (by rfl) (pa_cons (pv 1) (pa_cons pe_int pa_nil))))
      (pss_cons (ps_set (i := 4) sc_law.nd rfl (Or.inl rfl) (C_law_some_web.pe hr (by rfl) (pa_cons (pv 1) (pa_cons pe_int pa_nil))))
      (pss_cons (ps_set (i := 5) sc_law.nd rfl (Or.inl rfl) (C_law_dip.pe hr (by rfl) (pa_cons (pv 1) (pa_cons (pe_callB (clen K) (by rfl) T.b_len (by decide +kernel) (pa_cons (pv 3) pa_nil)) pa_nil))))
      (pss_cons (ps_setLc (i := 6) (own := [("_law_x", 7)]) (g := (gName 7)) (by rfl) sc_law.nd rfl rfl (sw_true rfl rfl rfl (by kernel_rfl)) (pi_range1 (by rfl) T.b_range (pa_cons (pe_callB (clen K) (by rfl) T.b_len (by decide +kernel) (pa_cons (pv 3) pa_nil)) pa_nil)) (blkOk_by (by kernel_rfl)) (fun _ _ _ _ _ => (pg_name (i := 7) sc_law.nd rfl (Or.inl rfl))) (fun _ _ _ _ _ => (pts_one (pt_cmpR (eqD K hr.units) (pe_lc (own := [("_law_sign", 8)]) (g := (gName 8)) (by rfl) sc_law.nd (piT K (pe_ix (ixT K) (pv 3) (pv 7) (fun _ _ => rfl))) (blkOk_by (by kernel_rfl)) (fun _ _ _ _ _ => (pg_name (i := 8) sc_law.nd rfl (Or.inl rfl))) (fun _ _ _ _ _ => (pts_one (pt_cmpR op_ne (pv 8) pe_int (nomark _)))) (fun _ _ _ _ _ => (pv 8))) (pe_lst pa_nil) (nomark _)))) (fun _ _ _ _ _ => (pv 7)))
      (pss_cons (ps_if (PW.pt (pw_and (pt_cmpR (neD K hr.units) (pv 6) (pe_lst pa_nil) (nomark _)) (pw_and1 (pt_cmpR op_eq (C_law_dip.pe hr (by rfl) (pa_cons (pv 1) (pa_cons pe_int pa_nil))) pe_int (nomark _))))) (pss_one (ps_set (i := 5) sc_law.nd rfl (Or.inl rfl) (pe_ix (ixL K) (pv 6) (C_law_dip.pe hr (by rfl) (pa_cons (pv 1) (pa_cons (pe_callB (clen K) (by rfl) T.b_len (by decide +kernel) (pa_cons (pv 6) pa_nil)) pa_nil))) (fun _ _ => rfl)))) pss_nil)
      (pss_one (ps_if (PW.pt (pw_or (pt_not (pt_val (C_law_put_right.pe hr (by rfl) (pa_cons (pv 3) (pa_cons (pv 4) (pa_cons (pv 5) (pa_cons (C_law_lot.pe hr (by rfl) (pa_cons (pv 1) (pa_cons (pe_callB (clen K) (by rfl) T.b_len (by decide +kernel) (pa_cons (pv 3) pa_nil)) pa_nil))) pa_nil))))))) (pw_or1 (pt_not (pt_val (C_law_all_right.pe hr (by rfl) (pa_cons (pv 3) (pa_cons (pv 4) pa_nil)))))))) (pss_one (ps_ret pe_bl)) pss_nil))))))))
      (pss_one (ps_ret pe_bl)))), ?_⟩
  obtain ⟨a, ns, rfl, ha, hlen, hbits, k⟩ := h
  refine q_asgP (R := fun v H' => ∃ wl, v = .ref wl ∧ Wl wl H') (c_call (ea_cons (ev_var rfl) ea_nil) fun H1 e1 Q1 q => ⟨a, ns, rfl, ex_l e1 ha, hlen, hbits, fun p H2 hp e2 h2 => q _ H2 e2 ⟨p, rfl, h2⟩⟩) ?_
  rintro _ H1 e1 ⟨wl, rfl, W1⟩
  refine q_forR1 (n := 2) (ea_cons ev_c ea_nil) ⟨by decide, by decide⟩ (fun i σ' H' => ∃ (o2 o3 o4 o5 o6 : Option V), σ' = [some (.ref a), some (.ref wl), o2, o3, o4, o5, o6, none, none] ∧ Wl wl H') ?_ ?_ ?_
  · exact fun H2 e2 => ⟨none, none, none, none, none, rfl, W1.ext e2⟩
  · rintro i σ' H2 hi ⟨o2, o3, o4, o5, o6, rfl, W2⟩
    refine q_asgM (R := fun v H' => ∃ n wf, Sw n wf ∧ n ≤ 5 ∧ IsW n wf v H') (c_callM (ea_cons (ev_var rfl) (ea_cons ev_c ea_nil)) fun H3 e3 Q1 q => ⟨wl, 5, rfl, W2.ext e3, by decide, by decide, fun v H4 n wf e4 w4 sw hn hw => q v H4 e4 w4 ⟨n, wf, sw, hn, hw⟩⟩) ?_
    rintro _ H3 _ W3 ⟨n, wf, sw, hn, wa, rfl, hw⟩
    refine q_asgM (R := fun v H' => ∃ n wf, Sw n wf ∧ n ≤ 4 ∧ IsW n wf v H') (c_callM (ea_cons (ev_var rfl) (ea_cons ev_c ea_nil)) fun H3 e3 Q1 q => ⟨wl, 4, rfl, W3.ext e3, by decide, by decide, fun v H4 n wf e4 w4 sw hn hw => q v H4 e4 w4 ⟨n, wf, sw, hn, hw⟩⟩) ?_
    rintro _ H4 e4 W4 ⟨m, of, so, hm, wb, rfl, ho⟩
    have hw4 := hw.w W3 e4
    have hn1 := sw.pos
    refine q_asgM (m_dip W4 (ea_cons (ev_var rfl) (ea_cons (e_lenW hw4 (ev_var rfl)) ea_nil)) ⟨by omega, by omega⟩) ?_
    rintro _ H5 e5 W5 ⟨p, rfl, hp⟩
    have hw5 := hw4.w W4 e5
    have ho5 := ho.w W4 e5
    obtain ⟨rs, g1, g2⟩ := id hw5
    refine q_asgN (P := fun xs _ => ∃ f, xs = ((List.range n).filter f).map fun (x : Nat) => V.int (x : Int)) ((EvN.of (lcD (f := fun x => ((List.range n).filter fun y => !decide (wf x y = 0)).isEmpty) (c := fun (x : Nat) => V.int (x : Int)) (tn_range1 (ea_cons (e_lenW hw5 (ev_var rfl)) ea_nil) (by omega)) (by omega) (fun _ _ => rfl) (fun x hx => et_test (ev_is (e_eqD (EvN.dp ((EvN.of (lcD (f := fun y => !decide (wf x y = 0)) (c := fun y => V.int (wf x y)) (tn_tup (e_ixT (ev_var rfl) g1 (ev_var rfl) rfl (at_map hx)) (g2 x hx)) (by omega) (fun _ _ => rfl) (fun i hi => et_test (e_ne (ev_var rfl) ev_c)) fun i hi _ => ev_var rfl)).imp fun xs H' _ r => by rw [r]; exact dp_map (g := fun y => PyData.int (wf x y)) fun x _ => .int _)) dp_nil (Dk.list fun d hd => by
      obtain ⟨j, _, rfl⟩ := List.mem_map.mp hd
      exact Dk.int _) Dk.nil (by decide)) (by rw [eqv_nil]))) fun i hi _ => ev_var rfl)).imp fun xs _ _ r => ⟨_, r⟩) ?_
    rintro pa xs H6 hpa e6 hxs ⟨f, rfl⟩
    have W6 := W5.ext e6
    have hw6 := hw5.m e6
    have ho6 := ho5.m e6
    have hpw : pa ≠ wl := W5.ne hpa
    have hfl := len_filter n f
    refine q_whenM (M := fun σ' H' => ∃ p : Nat, p < n ∧ σ' = [some (.ref a), some (.ref wl), some (.int (i : Int)), some (.ref wa), some (.ref wb), some (.int (p : Int)), some (.ref pa), none, none] ∧ WebAt wa n wf H' ∧ WebAt wb m of H' ∧ Wl wl H')
      (mt_and (b := !((List.range n).filter f).isEmpty) W6 (et_test (ev_is (e_neD (fun H7 e7 Q7 q7 => ev_var rfl H7 e7 Q7 fun H8 e8 => q7 _ H8 e8 (.lst (sq_of ((e7.trans e8) _ _ hxs)) (dp_map (g := fun (x : Nat) => PyData.int (x : Int)) fun x _ => .int _))) dp_nil (Dk.list fun d hd => by
        obtain ⟨j, _, rfl⟩ := List.mem_map.mp hd
        exact Dk.int _) Dk.nil (by decide)) (by rw [eqv_nil]))) (m_dipEq W6 (ea_cons (ev_var rfl) (ea_cons ev_c ea_nil)) (m := 2) ⟨by decide, by decide⟩)) ?_ (fun hne H7 e7 W7 rest => ?_) fun H7 e7 W7 => ⟨p, hp, rfl, hw6.w W6 e7, ho6.w W6 e7, W7⟩
    · rintro σ' H7 ⟨p, hp, rfl, hw7, ho7, W7⟩
      refine s_skipM (mf_or (mf_not (m_call4 (ev_var rfl) (ev_var rfl) (ev_var rfl) (Rd := fun v H' => ∃ c, IsLot n c v H') (c_callM (ea_cons (ev_var rfl) (ea_cons (e_lenW hw7 (ev_var rfl)) ea_nil)) fun H8 e8 Q1 q => ⟨wl, n, rfl, W7.ext e8, by omega, fun v H9 c e9 w9 hl => q v H9 e9 w9 ⟨c, hl⟩⟩) fun v H8 e8 w8 ⟨c, l, ev, hl⟩ Q1 q => ⟨wa, wb, l, n, m, p, wf, of, c, by rw [ev], hw7.w W7 e8, sw, ho7.w W7 e8, so, hp, by omega, hl, fun H9 e9 => q _ H9 (Exw.of e9) (w8.ext e9) rfl⟩))
        fun H8 e8 W8 => mf_not (c_callM (ea_cons (ev_var rfl) (ea_cons (ev_var rfl) ea_nil)) fun H9 e9 Q1 q => ⟨wa, wb, n, m, wf, of, rfl, (hw7.w W7 e8).m e9, sw, (ho7.w W7 e8).m e9, so, by omega, fun H10 e10 => q _ H10 (Exw.of e10) (W8.ext (e9.trans e10)) rfl⟩)) fun H8 e8 W8 => ⟨_, _, _, _, _, rfl, W8⟩
    · have hxs7 := e7 _ _ hpw hxs
      have hlp : 0 < ((List.range n).filter f).length := by
        rw [List.length_pos_iff]
        intro z
        rw [z] at hne
        cases hne
      refine s_asgM (m_opR (S := fun u _ => ∃ x : Nat, u = .int (x : Int) ∧ x < n) (ev_var rfl) (m_dip W7 (m := ((List.range n).filter f).length) (ea_cons (ev_var rfl) (ea_cons (ev_is (e_lenL (ev_var rfl) hxs7) (by rw [List.length_map])) ea_nil)) ⟨hlp, by omega⟩) fun v H8 e8 w8 ⟨r, ev, hr⟩ Q1 q => ?_) ?_
      · obtain ⟨x, hx⟩ : ∃ x, ((List.range n).filter f)[r]? = some x := ⟨_, List.getElem?_eq_getElem hr⟩
        exact ⟨pa, _, (r : Int), .int (x : Int), rfl, ev, sq_of (e8 _ _ hpw hxs7), atI_nat (by rw [List.getElem?_map, hx]; rfl), q _ H8 (Ex.refl _) ⟨x, rfl, List.mem_range.mp (List.mem_filter.mp (List.mem_of_getElem? hx)).1⟩⟩
      · rintro _ H8 e8 W8 ⟨x, rfl, hx⟩
        exact rest _ _ ⟨x, hx, rfl, (hw6.w W6 e7).w W7 e8, (ho6.w W6 e7).w W7 e8, W8⟩
  · rintro σ' H2 ⟨o2, o3, o4, o5, o6, rfl, W2⟩
    exact s_ret ev_c fun H3 e3 => k H3
end
end Sg
set_option maxHeartbeats 0
namespace Sg
open PySem PySem.Spec PyProof.Rows L2
theorem all_ok {P : Program} {w : World} {K : PySem.W.Frag} {mg : Str → Option Value} {base : Heap} (T : Top K mg) {f : Addr} {fd : FuncData} (F : FunD K "law" "law" (defArgs (top 59)) (defBody (top 59)) (defScope (top 59)) [] [] f fd) : FnOk P w K mg base CX0 8 f fd ["_law_script"] (sp_law K) := by
  have C_is_integer : Cal P w K mg base 1 "is_integer" ["value"] sp_is_integer := ok_is_integer T 
  have C_is_between : Cal P w K mg base 2 "is_between" ["low", "value", "high"] sp_is_between := ok_is_between T C_is_integer
  have C_is_tuple_of : Cal P w K mg base 1 "is_tuple_of" ["many", "value"] sp_is_tuple_of := ok_is_tuple_of T 
  have C_is_sign : Cal P w K mg base 3 "is_sign" ["value"] sp_is_sign := ok_is_sign T C_is_between
  have C_is_lot_of : Cal P w K mg base 3 "is_lot_of" ["many", "value"] sp_is_lot_of := ok_is_lot_of T C_is_between
  have C_check_lot : Cal P w K mg base 4 "check_lot" ["many", "value"] sp_check_lot := ok_check_lot T C_is_lot_of
  have C_check_place : Cal P w K mg base 3 "check_place" ["many", "value"] sp_check_place := ok_check_place T C_is_between
  have C_check_sign : Cal P w K mg base 4 "check_sign" ["value"] sp_check_sign := ok_check_sign T C_is_sign
  have C_others_of : Cal P w K mg base 1 "others_of" ["many", "lot"] sp_others_of := ok_others_of T 
  have C_is_web : Cal P w K mg base 3 "is_web" ["value"] sp_is_web := ok_is_web T C_is_between C_is_tuple_of
  have C_check_web : Cal P w K mg base 4 "check_web" ["value"] sp_check_web := ok_check_web T C_is_web
  have C_ties_of : Cal P w K mg base 1 "ties_of" ["web"] sp_ties_of := ok_ties_of T 
  have C_foes_of : Cal P w K mg base 2 "foes_of" ["web"] sp_foes_of := ok_foes_of T C_ties_of
  have C_ring_by : Cal P w K mg base 1 "ring_by" ["row"] sp_ring_by := ok_ring_by T 
  have C_check_room : Cal P w K mg base 1 "check_room" ["many"] sp_check_room := ok_check_room T 
  have C_joined_all : Cal P w K mg base 5 "joined_all" ["web", "other_web", "sign"] sp_joined_all := ok_joined_all T C_check_sign C_check_web C_check_room
  have C_put_in : Cal P w K mg base 5 "put_in" ["web", "place", "other_web"] sp_put_in := ok_put_in T C_check_place C_others_of C_check_web C_check_room
  have C_way_up : Cal P w K mg base 1 "way_up" ["parents", "place"] sp_way_up := ok_way_up T 
  have C_ring_through : Cal P w K mg base 2 "ring_through" ["parents", "x", "y"] sp_ring_through := ok_ring_through T C_ring_by C_way_up
  have C_walked : Cal P w K mg base 1 "walked" ["web"] sp_walked := ok_walked T 
  have C_balance_of : Cal P w K mg base 3 "balance_of" ["web"] sp_balance_of := ok_balance_of T C_ties_of C_ring_through C_walked
  have C_some_bad_ring : Cal P w K mg base 4 "some_bad_ring" ["web"] sp_some_bad_ring := ok_some_bad_ring T C_balance_of
  have C_is_balanced : Cal P w K mg base 5 "is_balanced" ["web"] sp_is_balanced := ok_is_balanced T C_check_web C_some_bad_ring
  have C_is_camp_of : Cal P w K mg base 2 "is_camp_of" ["web", "lot"] sp_is_camp_of := ok_is_camp_of T C_ties_of
  have C_is_camp : Cal P w K mg base 5 "is_camp" ["web", "lot"] sp_is_camp := ok_is_camp T C_check_lot C_check_web C_is_camp_of
  have C_has_same_ties : Cal P w K mg base 2 "has_same_ties" ["web", "other_web"] sp_has_same_ties := ok_has_same_ties T C_ties_of
  have C_product_of : Cal P w K mg base 1 "product_of" ["web", "other_web"] sp_product_of := ok_product_of T 
  have C_alike_of : Cal P w K mg base 5 "alike_of" ["web", "other_web"] sp_alike_of := ok_alike_of T C_some_bad_ring C_has_same_ties C_product_of
  have C_are_alike : Cal P w K mg base 6 "are_alike" ["web", "other_web"] sp_are_alike := ok_are_alike T C_check_web C_alike_of
  have C_foe_table : Cal P w K mg base 3 "foe_table" ["web"] sp_foe_table := ok_foe_table T C_foes_of
  have C_trouble_of : Cal P w K mg base 4 "trouble_of" ["web"] sp_trouble_of := ok_trouble_of T C_foe_table
  have C_trouble : Cal P w K mg base 5 "trouble" ["web"] sp_trouble := ok_trouble T C_check_web C_trouble_of
  have C_law_well : Cal P w K mg base 1 "_law_well" ["_law_script"] (sp_law_well K) := ok_law_well T 
  have C_law_dip : Cal P w K mg base 1 "_law_dip" ["_law_well_here", "_law_many"] sp_law_dip := ok_law_dip T 
  have C_law_web : Cal P w K mg base 2 "_law_web" ["_law_well_here", "_law_many"] sp_law_web := ok_law_web T C_law_dip
  have C_law_lot : Cal P w K mg base 2 "_law_lot" ["_law_well_here", "_law_many"] sp_law_lot := ok_law_lot T C_law_dip
  have C_law_turned : Cal P w K mg base 1 "_law_turned" ["_law_web_here", "_law_lot_here"] sp_law_turned := ok_law_turned T 
  have C_law_sides : Cal P w K mg base 1 "_law_sides" ["_law_web_here"] sp_law_sides := ok_law_sides T 
  have C_law_trouble : Cal P w K mg base 1 "_law_trouble" ["_law_web_here"] sp_law_trouble := ok_law_trouble T 
  have C_law_some_web : Cal P w K mg base 3 "_law_some_web" ["_law_well_here", "_law_most"] sp_law_some_web := ok_law_some_web T C_law_dip C_law_web C_law_lot C_law_turned
  have C_law_no_foe : Cal P w K mg base 1 "_law_no_foe" ["_law_web_here"] sp_law_no_foe := ok_law_no_foe T 
  have C_law_balanced_right : Cal P w K mg base 6 "_law_balanced_right" ["_law_web_here"] sp_law_balanced_right := ok_law_balanced_right T C_is_balanced C_is_camp C_law_sides
  have C_law_put_right : Cal P w K mg base 7 "_law_put_right" ["_law_web_here", "_law_other", "_law_place", "_law_lot_here"] sp_law_put_right := ok_law_put_right T C_put_in C_are_alike C_law_turned C_law_sides C_law_no_foe C_law_balanced_right
  have C_law_all_right : Cal P w K mg base 7 "_law_all_right" ["_law_web_here", "_law_other"] sp_law_all_right := ok_law_all_right T C_joined_all C_are_alike C_trouble C_law_turned C_law_sides C_law_trouble C_law_no_foe C_law_balanced_right
  exact okf_law T F C_law_well C_law_dip C_law_lot C_law_some_web C_law_put_right C_law_all_right
theorem facts {P : Program} {w : World} {K : PySem.W.Frag} {h : Heap} {mg : Str → Option Value} {f : Addr} (X : K.In h) (G : h.Ns mainGlobals mg) (hfa : mg ("law" : Str) = some (.ref f)) (c : He.SaysD fa fn K) :
    ∃ fd : FuncData, (∀ (s : Shared) (v : Value), BindsTo s fd ⟨[v], []⟩ [("_law_script", v)]) ∧ ∀ base : Heap, K.In base → base.Ns mainGlobals mg → FnOk P w K mg base CX0 8 f fd ["_law_script"] (sp_law K) := by
  have T := tops X G c
  obtain ⟨fd, F⟩ := c.def_ 44 (d := dd_law) rfl
  have e := hfa.symm.trans (He.glo_ok X G (c.fact 44 (f := .glo "law") rfl))
  cases e
  have b := FunD.bindsA (ps := ["_law_script"]) F fun _ _ _ _ _ _ us hl => match us, hl with | [_], _ => rfl
  exact ⟨fd, fun s v => b s [v] rfl, fun base _ _ => all_ok T F⟩
/-- a law: F gives the written part, the function object, the promise over every base; the script's bits are told -/
theorem walk_ofEB {l : PySem.W.OpenLaw} {n k : Nat} {q : Program} {loose : List Str} {XP : (Str → Option Value) → Heap → Prop} {YP : World → Heap → Prop} {d : DefRec} {CX : CXT} {x : Str}
    (hn : l.most = some n) (hn2 : n ≤ sizeLine) (hdf : d.params.defaults = []) (hr : Room k callerA)
    (F : ∀ (w : World) (mg : Str → Option Value) (fa : Addr) (h : Heap), YP w h → h.Ns mainGlobals mg → mg d.name = some (.ref fa) →
      ∃ (K : PySem.W.Frag) (fd : FuncData) (sp : Sp), K.In h ∧ (∀ (s : Shared) (u : Value), BindsTo s fd ⟨[u], []⟩ [(x, u)]) ∧
        (∀ (H : Hp) (a : Addr) (ns : List Int), ns.length ≤ n → (∀ z ∈ ns, Builtin.Int.intBits z ≤ 1048576) → Only H → SqL K H a (ns.map V.int) → sp [.ref a] H (fun v _ => v = .bl true) fun _ _ _ => False) ∧
        ∀ base : Heap, K.In base → base.Ns mainGlobals mg → FnOk l.prog w K mg base CX k fa fd [x] sp)
    (hCX : ∀ (H : Hp) (s : Shared) (e : Value) (s' : Shared), CX [] H s (fun _ _ _ => False) e s' → False) :
    PySem.W.WalkO q loose XP YP l.row.toRowW d [] (fun f vs => PySem.call f vs) := by
  refine Att.attach_callB hn hdf fun w s0 s1 mg mb fa o pm cd doc a vs ns G Y ho hd hcd hmg hobj hints hlen hbits hg => ?_
  obtain ⟨K, fd, sp, KX, hb, hsp, hF⟩ := F w mg fa _ Y G.T.g hmg
  exact law_call KX G.T.g G.T.b G.T.builtins G.T.nolimit hg hobj hints (Nat.le_trans hlen hn2) hr hF hb (fun H hO hS => hsp H a ns hlen hbits hO hS) fun H e s' => hCX H s1 e s'
end Sg
open PySem PySem.W PySem.Calls PyProof.Rows
theorem PySem.Challenge.cw_signrounds_k77_whole_put_in_and_joined_a_holds : PySem.Challenge.rw_signrounds_k77_whole_put_in_and_joined_a.Holds := by
  w_on; o_law
  refine HandSHeadRun.head_any (r := OpenLaw.row PySem.Challenge.rw_signrounds_k77_whole_put_in_and_joined_a) (q := view (OpenLaw.row PySem.Challenge.rw_signrounds_k77_whole_put_in_and_joined_a).prog [59]) (H := Sg.hk) (ob := Sg.ob) (M := 3000) (loose := Sg.loose) (d := HandSHeadRun.topDef (OpenLaw.row PySem.Challenge.rw_signrounds_k77_whole_put_in_and_joined_a).prog 59) (kwd := []) Sg.ob_eq
    (by kernel_rfl) (fun s => by kernel_rfl) Sg.run (by kernel_rfl) (by kernel_rfl) (by kernel_rfl) (by rfl) (by first | assumption | decide +kernel) (by decide +kernel) ⟨rfl, rfl, rfl, rfl, rfl, by decide +kernel⟩ ?hw ?hc
  case hw => w_witness2
  case hc =>
    refine Sg.walk_ofEB (l := PySem.Challenge.rw_signrounds_k77_whole_put_in_and_joined_a) (n := 63) (k := 8) (x := "_law_script") (CX := L2.CX0) rfl (by decide) (by kernel_rfl) ⟨rfl, by decide, by decide⟩ ?F (fun _ _ _ _ z => z)
    intro w mg fa h Y G hmg0
    obtain ⟨K, KX, c⟩ := Y
    have hmg : mg ("law" : PySem.Str) = some (.ref fa) := by
      have e : (HandSHeadRun.topDef (OpenLaw.row PySem.Challenge.rw_signrounds_k77_whole_put_in_and_joined_a).prog 59).name = ("law" : PySem.Str) := by kernel_rfl
      rw [← e]
      exact hmg0
    obtain ⟨fd, hb, hF⟩ := Sg.facts (P := (PySem.Challenge.rw_signrounds_k77_whole_put_in_and_joined_a).prog) (w := w) KX G hmg c
    exact ⟨K, fd, Sg.sp_law K, KX, hb, fun H a ns hl hbits _ hS => ⟨a, ns, rfl, hS, hl, hbits, fun _ => rfl⟩, hF⟩
