/- What the law's examples come to, reckoned on the plain functions. No conditions. -/
import Derived.Test.YtcmmkeiiapbgcaaGreatDoorCity
namespace Go.Proofs.YtcmmkeiiapbgcaaGreatDoor
open Go Go.RowKit

def sOslo : ByteArray := ⟨#[79, 115, 108, 111]⟩
def sParis : ByteArray := ⟨#[80, 97, 114, 105, 115]⟩
def sNo : ByteArray := ⟨#[110, 111]⟩
def sA : ByteArray := ⟨#[97]⟩
def sB : ByteArray := ⟨#[98]⟩
def sC : ByteArray := ⟨#[99]⟩
def sN : ByteArray := ⟨#[110]⟩
def wantD : List Dep := [⟨[sCity], sZip⟩, ⟨[sCity], sCountry⟩, ⟨[sZip], sCity⟩, ⟨[sZip], sCountry⟩]
def abD : List Dep := [⟨[sA], sB⟩, ⟨[sB], sC⟩]
def nV : Val := ⟨5, ⟨#[]⟩, 0, 0, 0, [sN], [[numV 3 0], [numV (-5) 0], [numV 4 0]]⟩
set_option maxRecDepth 100000
theorem san_right : lookR citiesT = true := by kernel_rfl
theorem san_find1 : findS citiesT sCity (textV sOslo) sCountry = (textV sNo, 0) := by kernel_rfl
theorem san_find2 : findS citiesT sCity (textV sParis) sCountry = (Val.zero, 18) := by kernel_rfl
theorem san_keys : keysS citiesT.cols citiesT.rows = wantD := by kernel_rfl
theorem san_sum1 : sumS nV sN (-2) 0 = (numV 2 0, 0) := by kernel_rfl
theorem san_sum2 : sumS nV sN 0 0 = (Val.zero, 20) := by kernel_rfl
theorem san_hold1 : holdsS citiesT.cols citiesT.rows [sCountry] sZip = false := by kernel_rfl
theorem san_hold2 : holdsS citiesT.cols citiesT.rows [sCity] sCountry = true := by kernel_rfl
end Go.Proofs.YtcmmkeiiapbgcaaGreatDoor
